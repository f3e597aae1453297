/- 'FnPieces' answers true, whatever it is given. No condition. -/
import Derived.Test.YthjohfhnpeiheaaPcsB
import Derived.Test.YthjohfhnpeiheaaPcsC
import Derived.Test.YthjohfhnpeiheaaRows
import Derived.Test.YthjohfhnpeiheaaChecked
set_option linter.all false
namespace Go.Vm.S
open Go Go.Vm
set_option maxRecDepth 100000
set_option linter.unusedVariables false
set_option maxHeartbeats 4000000
theorem at14 : FnAt Pg 14 Go.Proofs.Try.f14 := ⟨by kernel_rfl, rfl, by decide⟩
theorem c_impl_AddPart (l : List Held) (fr : Int) (t : ByteArray) (now : Int) (hb : szHelds l ≤ 4194304) :
    Ctr Pg ty 14 [.agg ((shelfC l).map X.c), iv fr, sv t, iv now] [] (Gives (.tup [.agg [.hdr 16 0 (addP l fr t now).1.length], sv (addP l fr t now).2.1, bv (addP l fr t now).2.2]) [⟨6, clo ((addP l fr t now).1.map heldO)⟩] []) := by
  refine ctr at14 rfl (nsK_gives rfl ⟨nsN_map heldO_noSh, trivial⟩ trivial) (Nat.le_of_ble_eq_true rfl) fun w0 S0 L0 Z => ?_
  refine vc_seq fun K1 hK1 => ?_
  refine vc_region ?_
  refine vl_box rfl (dk rfl) ?_
  refine vl_alloc rfl (dk rfl) ?_
  refine vl_q (q_assign rfl) (dk rfl) ?_
  refine vl_q (q_assign rfl) (dk rfl) ?_
  refine vl_nil ?_
  refine hK1 _ ?_
  refine vc_seq fun K2 hK2 => ?_
  refine vc_region ?_
  refine vl_load rfl rfl rfl rfl rfl rfl rfl (by decide) (dk rfl) ?_
  refine vl_callG [] (.v (.agg [.hdr 18 0 _])) (c_impl_copyShelf l hb) rfl rfl ⟨VOk.agg ⟨XOk.shc _ _, trivial⟩, trivial⟩ trivial rfl (by decide) ⟨fix_clo _ _, trivial⟩ trivial rfl (.inl rfl) (dk rfl) ?_
  refine vl_alloc rfl (dk rfl) ?_
  refine vl_store rfl rfl rfl rfl rfl rfl (Nat.le_of_ble_eq_true rfl) trivial ?_
  refine vl_nil ?_
  refine hK2 _ ?_
  refine vc_seq fun K3 hK3 => ?_
  refine vc_region ?_
  refine vl_q (q_move rfl) (dk rfl) ?_
  rcases Bool.eq_false_or_eq_true (rpOk t) with hrp | hrp
  · refine vl_callP (c_ReadPart_t t hrp) rfl rfl ⟨XOk.val _, trivial⟩ rfl (.inl rfl) (dk rfl) ?_
    refine vl_q (q_move rfl) (dk rfl) ?_
    refine vl_q (q_extract rfl rfl) (dk rfl) ?_
    refine vl_q (q_extract rfl rfl) (dk rfl) ?_
    refine vl_q (q_extract rfl rfl) (dk rfl) ?_
    refine vl_q (q_extract rfl rfl) (dk rfl) ?_
    refine vl_q (q_extract rfl rfl) (dk rfl) ?_
    refine vl_q (q_assign rfl) (dk rfl) ?_
    refine vl_q (q_assign rfl) (dk rfl) ?_
    refine vl_q (q_assign rfl) (dk rfl) ?_
    refine vl_q (q_assign rfl) (dk rfl) ?_
    refine vl_q (q_assign rfl) (dk rfl) ?_
    refine vl_nil ?_
    refine hK3 _ ?_
    refine vc_seq fun K4 hK4 => ?_
    refine vc_seq fun K5 hK5 => ?_
    refine vc_region ?_
    refine vl_load rfl rfl rfl rfl rfl rfl rfl (by decide) (dk rfl) ?_
    refine vl_callP (c_impl_ShelfOk l) rfl rfl ⟨VOk.agg ⟨XOk.shc _ _, trivial⟩, trivial⟩ rfl (.inl rfl) (dk rfl) ?_
    refine vl_bool 31 rfl (fun h31 => ?_) (fun h31 => ?_)
    · have hsg : ShelfGood l := of_decide_eq_true h31
      have hlen3 := hsg.len
      refine vl_q (q_not rfl) (dk rfl) ?_
      refine vl_q (q_move rfl) (dk rfl) ?_
      refine vl_guard_on rfl rfl rfl ?_
      refine vl_q (q_move rfl) (dk rfl) ?_
      refine vl_guard_on rfl rfl rfl ?_
      refine vl_callP (c_impl_isId _) rfl rfl ⟨XOk.val _, trivial⟩ rfl (.inl rfl) (dk rfl) ?_
      refine vl_bool 35 rfl (fun h35 => ?_) (fun h35 => ?_)
      · refine vl_guard_on rfl rfl rfl ?_
        refine vl_q (q_not rfl) (dk rfl) ?_
        refine vl_q (q_pick_false rfl rfl) (dk rfl) ?_
        refine vl_q (q_move rfl) (dk rfl) ?_
        refine vl_guard_on rfl rfl rfl ?_
        refine vl_q (q_move rfl) (dk rfl) ?_
        refine vl_guard_on rfl rfl rfl ?_
        refine vl_q (q_not rfl) (dk rfl) ?_
        refine vl_q (q_pick_false rfl rfl) (dk rfl) ?_
        refine vl_q (q_move rfl) (dk rfl) ?_
        refine vl_guard_on rfl rfl rfl ?_
        refine vl_q (q_move rfl) (dk rfl) ?_
        refine vl_guard_on rfl rfl rfl ?_
        refine vl_q (q_len_str rfl rfl rfl) (dk rfl) ?_
        refine vl_guard_on rfl rfl rfl ?_
        refine vl_two (x := fun b => vv (.bool b)) _ (q_cmp rfl rfl rfl rfl) (dk rfl) (fun h45 => ?_) (fun h45 => ?_)
        · replace h45 := gtr_of h45
          refine vl_q (q_pick_false rfl rfl) (dk rfl) ?_
          refine vl_q (q_move rfl) (dk rfl) ?_
          refine vl_goff rfl rfl rfl (by decide) (dk rfl) ?_
          refine vl_goff rfl rfl rfl (by decide) (dk rfl) ?_
          refine vl_goff rfl rfl rfl (by decide) (dk rfl) ?_
          refine vl_q (q_pick_true rfl rfl) (dk rfl) ?_
          refine vl_nil ?_
          refine hK5 _ ?_
          refine vc_cond_true rfl ?_
          refine vc_seq fun K6 hK6 => ?_
          refine vc_region ?_
          refine vl_load rfl rfl rfl rfl rfl rfl rfl (by decide) (dk rfl) ?_
          refine vl_store rfl rfl rfl rfl rfl rfl (Nat.le_of_ble_eq_true rfl) trivial ?_
          refine vl_q (q_assign rfl) (dk rfl) ?_
          refine vl_q (q_assign rfl) (dk rfl) ?_
          refine vl_nil ?_
          refine hK6 _ ?_
          refine vc_ret ?_
          have e : addP l fr t now = (l, ⟨#[]⟩, false) := addP_bad (addOk_f (by first | exact .inl ‹_› | exact .inr (.inl ‹_›) | exact .inr (.inr (.inl ‹_›)) | exact .inr (.inr (.inr (.inl (by omega)))) | exact .inr (.inr (.inr (.inr ‹_›)))))
          refine ret_g [18] rfl (.cons (res_cell rfl rfl rfl rfl rfl rfl rfl (by decide)) (.cons (res_tmp rfl) (.cons (res_tmp rfl) .nil))) (by rw [e]; first | rfl | (simp only [List.length_set]; rfl) | (simp only [List.length_eraseIdx, if_pos hal, hy]; rfl)) rfl (nodupB_ok rfl) ⟨by decide, trivial⟩ ⟨⟨⟨6, clo ((addP l fr t now).1.map heldO)⟩, some_node (by rw [e]), NR.clo _ _ _ _⟩, trivial⟩ trivial (Nat.zero_le _)
        · replace h45 := gtr_nof h45
          refine vl_q (q_pick_false rfl rfl) (dk rfl) ?_
          refine vl_q (q_move rfl) (dk rfl) ?_
          refine vl_guard_on rfl rfl rfl ?_
          refine vl_q (q_move rfl) (dk rfl) ?_
          refine vl_guard_on rfl rfl rfl ?_
          refine vl_callP (c_impl_within _ _ _) rfl rfl ⟨XOk.val _, XOk.val _, XOk.val _, trivial⟩ rfl (.inl rfl) (dk rfl) ?_
          refine vl_bool 49 rfl (fun h49 => ?_) (fun h49 => ?_)
          · refine vl_guard_on rfl rfl rfl ?_
            refine vl_q (q_not rfl) (dk rfl) ?_
            refine vl_q (q_pick_false rfl rfl) (dk rfl) ?_
            refine vl_nil ?_
            refine hK5 _ ?_
            refine vc_cond_false rfl ?_
            refine vc_skip ?_
            refine hK4 _ ?_
            refine vc_seq fun K7 hK7 => ?_
            refine vc_seq fun K8 hK8 => ?_
            have hok : addOk l fr t now = true := addOk_t h31 h35 hrp (by omega) h49
            have hrpp := rp_parts hrp
            have hnow := within_of h49
            refine vc_region ?_
            refine vl_q (q_move rfl) (dk rfl) ?_
            refine vl_two (x := fun b => vv (.bool b)) _ (q_cmp rfl rfl rfl rfl) (dk rfl) (fun h54 => ?_) (fun h54 => ?_)
            · replace h54 := eql_of h54
              have h1 : byteAt t 2 = 1 := by omega
              refine vl_nil ?_
              refine hK8 _ ?_
              refine vc_cond_true rfl ?_
              refine vc_seq fun K9 hK9 => ?_
              refine vc_region ?_
              refine vl_load rfl rfl rfl rfl rfl rfl rfl (by decide) (dk rfl) ?_
              refine vl_q (q_move rfl) (dk rfl) ?_
              refine vl_store rfl rfl rfl rfl rfl rfl (Nat.le_of_ble_eq_true rfl) trivial ?_
              refine vl_q (q_assign rfl) (dk rfl) ?_
              refine vl_q (q_assign rfl) (dk rfl) ?_
              refine vl_nil ?_
              refine hK9 _ ?_
              refine vc_ret ?_
              have e : addP l fr t now = (l, part t, true) := addP_one hok h1
              refine ret_g [18] rfl (.cons (res_cell rfl rfl rfl rfl rfl rfl rfl (by decide)) (.cons (res_tmp rfl) (.cons (res_tmp rfl) .nil))) (by rw [e]; first | rfl | (simp only [List.length_set]; rfl) | (simp only [List.length_eraseIdx, if_pos hal, hy]; rfl)) rfl (nodupB_ok rfl) ⟨by decide, trivial⟩ ⟨⟨⟨6, clo ((addP l fr t now).1.map heldO)⟩, some_node (by rw [e]), NR.clo _ _ _ _⟩, trivial⟩ trivial (Nat.zero_le _)
            · replace h54 := eql_nof h54
              have h1 : byteAt t 2 ≠ 1 := by omega
              refine vl_nil ?_
              refine hK8 _ ?_
              refine vc_cond_false rfl ?_
              refine vc_skip ?_
              refine hK7 _ ?_
              refine vc_seq fun K10 hK10 => ?_
              refine vc_region ?_
              refine vl_load rfl rfl rfl rfl rfl rfl rfl (by decide) (dk rfl) ?_
              refine vl_q (q_move rfl) (dk rfl) ?_
              refine vl_q (q_move rfl) (dk rfl) ?_
              refine vl_callP (c_impl_heldAt l fr (byteAt t 0)) rfl rfl ⟨VOk.agg ⟨XOk.snapH rfl (by decide) (by simp [markHs_len]) (map_wid heldO_len) (heldsO_shr _), trivial⟩, XOk.val _, XOk.val _, trivial⟩ rfl (.inl rfl) (dk rfl) ?_
              refine vl_q (q_assign rfl) (dk rfl) ?_
              refine vl_nil ?_
              refine hK10 _ ?_
              refine vc_join (fun st => ∃ l1 : List Held, ∃ at1 : Int, (((at1 = -1 ∧ l1 = l.eraseIdx (kIdx l fr t) ∧ ∀ (hil : kIdx l fr t < l.length), l[kIdx l fr t].cnt ≠ byteAt t 2) ∨ (∃ (i : Nat) (hil : i < l.length), at1 = i ∧ l1 = l ∧ kIdx l fr t = i ∧ l[i].cnt = byteAt t 2)) ∧ l1.length ≤ 3) ∧ st = mkSt [(1, .v (iv fr)), (3, .v (iv now)), (8, .v (.one (.ptr 17 0 0))), (11, .v (.one (.ptr 19 0 0))), (12, .v (iv (byteAt t 0))), (13, .v (iv (byteAt t 1))), (14, .v (iv (byteAt t 2))), (15, .v (sv (part t))), (17, .v (iv at1))] [(17, ⟨1, [[.c (.val (.slice none 0 0))]]⟩), (19, ⟨1, [[.c (.own 6 (l1.map heldO))]]⟩)] 20) (fun K11 hK11 => ?_) (fun st hI => ?_)
              · refine vc_seq fun K12 hK12 => ?_
                refine vc_region ?_
                refine vl_q (q_move rfl) (dk rfl) ?_
                refine vl_two (x := fun b => vv (.bool b)) _ (q_cmp rfl rfl rfl rfl) (dk rfl) (fun h62 => ?_) (fun h62 => ?_)
                · replace h62 := geq_of h62
                  obtain ⟨i, hil, hfi, hki⟩ : ∃ (i : Nat) (h : i < l.length), fIdx (sameK fr (byteAt t 0)) l = i ∧ sameK fr (byteAt t 0) l[i] = true := by
                    rcases fIdx_cases (sameK fr (byteAt t 0)) l with ⟨h1, _⟩ | ⟨i, hi, h1, h2, _⟩
                    · omega
                    · exact ⟨i, hi, h1, h2⟩
                  have hix := kIdx_is hsg hil hki
                  refine vl_weak (Weak.lit (d := 17) (y := vv (.int .i64 ((i : Nat) : Int))) rfl (by rw [hfi])) ?_
                  refine vl_q (q_move rfl) (dk rfl) ?_
                  refine vl_guard_on rfl rfl rfl ?_
                  refine vl_q (q_fieldAddr 0 rfl rfl rfl rfl (by decide) rfl rfl) (dk rfl) ?_
                  refine vl_guard_on rfl rfl rfl ?_
                  refine vl_load rfl rfl rfl rfl rfl rfl rfl (by decide) (dk rfl) ?_
                  refine vl_guard_on rfl rfl rfl ?_
                  refine vl_q (q_move rfl) (dk rfl) ?_
                  refine vl_guard_on rfl rfl rfl ?_
                  refine vl_q (q_indexAddr rfl rfl rfl rfl rfl rfl rfl (by omega) (by omega)) (dk rfl) ?_
                  try simp only [List.set_set, List.length_map, Int.toNat_natCast, Nat.add_zero]
                  refine vl_guard_on rfl rfl rfl ?_
                  refine vl_q (q_fieldAddr 2 rfl rfl rfl rfl (by decide) rfl rfl) (dk rfl) ?_
                  refine vl_guard_on rfl rfl rfl ?_
                  refine vl_load rfl rfl rfl (clo_get hil) rfl rfl rfl (by decide) (dk rfl) ?_
                  refine vl_guard_on rfl rfl rfl ?_
                  refine vl_q (q_move rfl) (dk rfl) ?_
                  refine vl_guard_on rfl rfl rfl ?_
                  refine vl_two (x := fun b => vv (.bool b)) _ (q_cmp rfl rfl rfl rfl) (dk rfl) (fun h71 => ?_) (fun h71 => ?_)
                  · replace h71 := neq_of h71
                    refine vl_q (q_pick_true rfl rfl) (dk rfl) ?_
                    refine vl_nil ?_
                    refine hK12 _ ?_
                    refine vc_cond_true rfl ?_
                    refine vc_seq fun K13 hK13 => ?_
                    refine vc_region ?_
                    refine vl_q (q_fieldAddr 0 rfl rfl rfl rfl (by decide) rfl rfl) (dk rfl) ?_
                    refine vl_load rfl rfl rfl rfl rfl rfl rfl (by decide) (dk rfl) ?_
                    refine vl_q (q_move rfl) (dk rfl) ?_
                    refine vl_q (q_move rfl) (dk rfl) ?_
                    refine vl_q (q_add rfl rfl (IntWalk.i64_in _ (by omega))) (dk rfl) ?_
                    refine vl_weak (Weak.lit (d := 77) (y := vv (.int .i64 ((i + 1 : Nat) : Int))) rfl rfl) ?_
                    have hcd := c_Delete l i hil (by omega)
                    refine vl_callG [18] (.v (.one (.hdr 20 0 (l.length - 1)))) hcd rfl rfl ⟨XOk.hdr rfl (by decide) _ _, XOk.val _, XOk.val _, trivial⟩ ⟨⟨_, rfl, NR.clo _ _ _ _⟩, trivial⟩ rfl (by decide) ⟨fix_clo _ _, trivial⟩ trivial rfl (.inl rfl) (dk rfl) ?_
                    refine vl_q (q_fieldAddr 0 rfl rfl rfl rfl (by decide) rfl rfl) (dk rfl) ?_
                    refine vl_store rfl rfl rfl rfl rfl rfl (Nat.le_of_ble_eq_true rfl) trivial ?_
                    refine vl_nil ?_
                    refine hK13 _ ?_
                    refine vc_region ?_
                    refine vl_q (q_assign rfl) (dk rfl) ?_
                    refine vl_nil ?_
                    refine hK11 _ ?_
                    refine wk_weak (Weak.close1 (nm := 19) (i := 0) (j := 0) (m := 20) (es := (l.eraseIdx i).map heldO) rfl rfl rfl rfl (by simp [List.length_eraseIdx, hil]) (by decide)) ?_
                    exact ⟨_, ⟨l.eraseIdx i, -1, ⟨.inl ⟨rfl, by rw [hix], fun h => by simp only [hix]; exact h71⟩, by rw [List.length_eraseIdx]; split <;> omega⟩, rfl⟩, (Weak.cut _ _ _ (Nat.le_of_ble_eq_true rfl) ⟨⟨rfl, rfl⟩, ⟨rfl, rfl⟩, ⟨rfl, rfl⟩, ⟨rfl, rfl⟩, ⟨rfl, rfl⟩, ⟨rfl, rfl⟩, ⟨rfl, rfl⟩, ⟨rfl, rfl⟩, ⟨rfl, rfl⟩, trivial⟩ ⟨⟨Nat.le_of_ble_eq_true rfl, rfl, belN_all rfl⟩, ⟨Nat.le_of_ble_eq_true rfl, rfl, belN_all rfl⟩, trivial⟩ rfl)⟩
                  · replace h71 := neq_nof h71
                    refine vl_q (q_pick_true rfl rfl) (dk rfl) ?_
                    refine vl_nil ?_
                    refine hK12 _ ?_
                    refine vc_cond_false rfl ?_
                    refine vc_skip ?_
                    refine hK11 _ ?_
                    refine wk_weak (Weak.close1 (nm := 19) (i := 0) (j := 0) (m := 18) (es := (l).map heldO) rfl rfl rfl rfl (by simp) (by decide)) ?_
                    exact ⟨_, ⟨l, (i : Nat), ⟨.inr ⟨i, hil, rfl, rfl, hix, h71⟩, hlen3⟩, rfl⟩, (Weak.cut _ _ _ (Nat.le_of_ble_eq_true rfl) ⟨⟨rfl, rfl⟩, ⟨rfl, rfl⟩, ⟨rfl, rfl⟩, ⟨rfl, rfl⟩, ⟨rfl, rfl⟩, ⟨rfl, rfl⟩, ⟨rfl, rfl⟩, ⟨rfl, rfl⟩, ⟨rfl, rfl⟩, trivial⟩ ⟨⟨Nat.le_of_ble_eq_true rfl, rfl, belN_all rfl⟩, ⟨Nat.le_of_ble_eq_true rfl, rfl, belN_all rfl⟩, trivial⟩ rfl)⟩
                · replace h62 := geq_nof h62
                  obtain ⟨hfi, hno⟩ : fIdx (sameK fr (byteAt t 0)) l = -1 ∧ ∀ x, x ∈ l → sameK fr (byteAt t 0) x = false := by
                    rcases fIdx_cases (sameK fr (byteAt t 0)) l with h1 | ⟨i, hi, h1, h2, _⟩
                    · exact h1
                    · omega
                  have hix := kIdx_none hno
                  refine vl_weak (Weak.lit (d := 17) (y := vv (.int .i64 (-1))) rfl (by rw [hfi])) ?_
                  refine vl_q (q_move rfl) (dk rfl) ?_
                  refine vl_goff rfl rfl rfl (by decide) (dk rfl) ?_
                  refine vl_goff rfl rfl rfl (by decide) (dk rfl) ?_
                  refine vl_goff rfl rfl rfl (by decide) (dk rfl) ?_
                  refine vl_goff rfl rfl rfl (by decide) (dk rfl) ?_
                  try simp only [List.set_set, List.length_map, Int.toNat_natCast, Nat.add_zero]
                  refine vl_goff rfl rfl rfl (by decide) (dk rfl) ?_
                  refine vl_goff rfl rfl rfl (by decide) (dk rfl) ?_
                  refine vl_goff rfl rfl rfl (by decide) (dk rfl) ?_
                  refine vl_goff rfl rfl rfl (by decide) (dk rfl) ?_
                  refine vl_q (q_pick_false rfl rfl) (dk rfl) ?_
                  refine vl_nil ?_
                  refine hK12 _ ?_
                  refine vc_cond_false rfl ?_
                  refine vc_skip ?_
                  refine hK11 _ ?_
                  refine wk_weak (Weak.close1 (nm := 19) (i := 0) (j := 0) (m := 18) (es := (l).map heldO) rfl rfl rfl rfl (by simp) (by decide)) ?_
                  exact ⟨_, ⟨l, -1, ⟨.inl ⟨rfl, by rw [hix, List.eraseIdx_of_length_le (Nat.le_refl _)], fun h => absurd h (by omega)⟩, hlen3⟩, rfl⟩, (Weak.cut _ _ _ (Nat.le_of_ble_eq_true rfl) ⟨⟨rfl, rfl⟩, ⟨rfl, rfl⟩, ⟨rfl, rfl⟩, ⟨rfl, rfl⟩, ⟨rfl, rfl⟩, ⟨rfl, rfl⟩, ⟨rfl, rfl⟩, ⟨rfl, rfl⟩, ⟨rfl, rfl⟩, trivial⟩ ⟨⟨Nat.le_of_ble_eq_true rfl, rfl, belN_all rfl⟩, ⟨Nat.le_of_ble_eq_true rfl, rfl, belN_all rfl⟩, trivial⟩ rfl)⟩
              obtain ⟨l1, at1, ⟨hc, hl13⟩, rfl⟩ := hI
              refine vc_join (fun st => ∃ l3 : List Held, ∃ a : Nat, (a < l3.length ∧ l3.length ≤ 3 ∧ FillP l fr t now l3 a) ∧ st = mkSt [(1, .v (iv fr)), (3, .v (iv now)), (8, .v (.one (.ptr 17 0 0))), (11, .v (.one (.ptr 19 0 0))), (12, .v (iv (byteAt t 0))), (13, .v (iv (byteAt t 1))), (14, .v (iv (byteAt t 2))), (15, .v (sv (part t))), (17, .v (iv (a : Nat)))] [(17, ⟨1, [[.c (.val (.slice none 0 0))]]⟩), (19, ⟨1, [[.c (.own 6 (l3.map heldO))]]⟩)] 20) (fun K14 hK14 => ?_) (fun st hI => ?_)
              · refine vc_seq fun K15 hK15 => ?_
                refine vc_region ?_
                refine vl_q (q_move rfl) (dk rfl) ?_
                refine vl_two (x := fun b => vv (.bool b)) _ (q_cmp rfl rfl rfl rfl) (dk rfl) (fun h81 => ?_) (fun h81 => ?_)
                · replace h81 := lss_of h81
                  obtain ⟨hl1, hnew⟩ : l1 = l.eraseIdx (kIdx l fr t) ∧ ∀ (hil : kIdx l fr t < l.length), l[kIdx l fr t].cnt ≠ byteAt t 2 := by
                    rcases hc with ⟨_, h1, h2⟩ | ⟨i, _, h1, _⟩
                    · exact ⟨h1, h2⟩
                    · omega
                  refine vl_nil ?_
                  refine hK15 _ ?_
                  refine vc_cond_true rfl ?_
                  refine vc_join (fun st => ∃ r : List Held, (r = three (l.eraseIdx (kIdx l fr t)) ∧ r.length ≤ 2 ∧ ∀ (hil : kIdx l fr t < l.length), l[kIdx l fr t].cnt ≠ byteAt t 2) ∧ st = mkSt [(1, .v (iv fr)), (3, .v (iv now)), (8, .v (.one (.ptr 17 0 0))), (11, .v (.one (.ptr 19 0 0))), (12, .v (iv (byteAt t 0))), (13, .v (iv (byteAt t 1))), (14, .v (iv (byteAt t 2))), (15, .v (sv (part t)))] [(17, ⟨1, [[.c (.val (.slice none 0 0))]]⟩), (19, ⟨1, [[.c (.own 6 (r.map heldO))]]⟩)] 20) (fun K16 hK16 => ?_) (fun st hI => ?_)
                  · refine vc_seq fun K17 hK17 => ?_
                    refine vc_region ?_
                    refine vl_q (q_fieldAddr 0 rfl rfl rfl rfl (by decide) rfl rfl) (dk rfl) ?_
                    refine vl_open (nm := 19) (i := 0) (j := 0) rfl rfl rfl rfl rfl rfl ?_
                    simp only [List.set_set, List.length_map, Int.toNat_natCast, Nat.add_zero]
                    refine vl_load rfl rfl rfl rfl rfl rfl rfl (by decide) (dk rfl) ?_
                    refine vl_q (q_len_hdr rfl rfl rfl) (dk rfl) ?_
                    refine vl_two (x := fun b => vv (.bool b)) _ (q_cmp rfl rfl rfl rfl) (dk rfl) (fun h85 => ?_) (fun h85 => ?_)
                    · replace h85 := eql_of h85
                      refine vl_nil ?_
                      refine hK17 _ ?_
                      refine vc_cond_true rfl ?_
                      refine vc_region ?_
                      refine vl_q (q_fieldAddr 0 rfl rfl rfl rfl (by decide) rfl rfl) (dk rfl) ?_
                      refine vl_load rfl rfl rfl rfl rfl rfl rfl (by decide) (dk rfl) ?_
                      refine vl_q (q_slice_hdr rfl rfl rfl rfl rfl rfl rfl rfl (by omega) (by omega) (.inl (by omega))) (dk rfl) ?_
                      refine vl_q (q_fieldAddr 0 rfl rfl rfl rfl (by decide) rfl rfl) (dk rfl) ?_
                      refine vl_store rfl rfl rfl rfl rfl rfl (Nat.le_of_ble_eq_true rfl) trivial ?_
                      refine vl_nil ?_
                      refine hK16 _ ?_
                      refine wk_weak (Weak.rebase (nm := 19) (i := 0) (j := 0) (m := 20) (lo := 1) (n := l1.length - 1) rfl rfl rfl rfl (by simp [clo_len]; omega) (by decide)) ?_
                      refine wk_weak (Weak.node (m := 21) (nd' := ⟨6, clo ((l1.drop 1).map heldO)⟩) rfl (congrArg (Vm.Node.mk 6) (by show List.take _ (List.drop 1 (clo (l1.map heldO))) = _; rw [clo_drop, List.take_of_length_le (by simp [clo_len])]))) ?_
                      refine wk_weak (Weak.close1 (nm := 19) (i := 0) (j := 0) (m := 21) (es := (l1.drop 1).map heldO) rfl rfl rfl rfl (by simp) (by decide)) ?_
                      exact ⟨_, ⟨l1.drop 1, ⟨by rw [← hl1, three_t (by omega)], by rw [List.length_drop]; omega, hnew⟩, rfl⟩, (Weak.cut _ _ _ (Nat.le_of_ble_eq_true rfl) ⟨⟨rfl, rfl⟩, ⟨rfl, rfl⟩, ⟨rfl, rfl⟩, ⟨rfl, rfl⟩, ⟨rfl, rfl⟩, ⟨rfl, rfl⟩, ⟨rfl, rfl⟩, ⟨rfl, rfl⟩, trivial⟩ ⟨⟨Nat.le_of_ble_eq_true rfl, rfl, belN_all rfl⟩, ⟨Nat.le_of_ble_eq_true rfl, rfl, belN_all rfl⟩, trivial⟩ rfl)⟩
                    · replace h85 := eql_nof h85
                      refine vl_nil ?_
                      refine hK17 _ ?_
                      refine vc_cond_false rfl ?_
                      refine vc_skip ?_
                      refine hK16 _ ?_
                      refine wk_weak (Weak.close1 (nm := 19) (i := 0) (j := 0) (m := 20) (es := (l1).map heldO) rfl rfl rfl rfl (by simp) (by decide)) ?_
                      exact ⟨_, ⟨l1, ⟨by rw [← hl1, three_f (by omega)], by omega, hnew⟩, rfl⟩, (Weak.cut _ _ _ (Nat.le_of_ble_eq_true rfl) ⟨⟨rfl, rfl⟩, ⟨rfl, rfl⟩, ⟨rfl, rfl⟩, ⟨rfl, rfl⟩, ⟨rfl, rfl⟩, ⟨rfl, rfl⟩, ⟨rfl, rfl⟩, ⟨rfl, rfl⟩, trivial⟩ ⟨⟨Nat.le_of_ble_eq_true rfl, rfl, belN_all rfl⟩, ⟨Nat.le_of_ble_eq_true rfl, rfl, belN_all rfl⟩, trivial⟩ rfl)⟩
                  obtain ⟨r, ⟨hr, hr2, hnew⟩, rfl⟩ := hI
                  refine vc_seq fun K18 hK18 => ?_
                  refine vc_region ?_
                  refine vl_q (q_fieldAddr 0 rfl rfl rfl rfl (by decide) rfl rfl) (dk rfl) ?_
                  refine vl_open (nm := 19) (i := 0) (j := 0) rfl rfl rfl rfl rfl rfl ?_
                  simp only [List.set_set, List.length_map, Int.toNat_natCast, Nat.add_zero]
                  refine vl_load rfl rfl rfl rfl rfl rfl rfl (by decide) (dk rfl) ?_
                  refine vl_q (q_len_hdr rfl rfl rfl) (dk rfl) ?_
                  refine vl_q (q_assign rfl) (dk rfl) ?_
                  refine vl_nil ?_
                  refine hK18 _ ?_
                  refine vc_region_any mixed (fun n => false) true rfl rfl (fun _ hU19 => hU19) fun w1 S1 L1 Z1 H1 => ?_
                  refine va_q 0 rfl (by kernel_rfl) (by kernel_rfl) (by kernel_rfl) (q_fieldAddr 0 rfl rfl rfl rfl (by decide) rfl rfl) (dk rfl) ?_
                  refine va_q 2 rfl (by kernel_rfl) (by kernel_rfl) (by kernel_rfl) (q_move rfl) (dk rfl) ?_
                  refine va_q 3 rfl (by kernel_rfl) (by kernel_rfl) (by kernel_rfl) (q_move rfl) (dk rfl) ?_
                  refine va_q 4 rfl (by kernel_rfl) (by kernel_rfl) (by kernel_rfl) (q_move rfl) (dk rfl) ?_
                  refine va_q 5 rfl (by kernel_rfl) (by kernel_rfl) (by kernel_rfl) (q_move rfl) (dk rfl) ?_
                  refine va_q 7 rfl (by kernel_rfl) (by kernel_rfl) (by kernel_rfl) (q_move rfl) (dk rfl) ?_
                  refine va_q 9 rfl (by kernel_rfl) (by kernel_rfl) (by kernel_rfl) (q_move rfl) (dk rfl) ?_
                  refine va_q 10 rfl (by kernel_rfl) (by kernel_rfl) (by kernel_rfl) (q_add rfl rfl (IntWalk.i64_in _ (by omega))) (dk rfl) ?_
                  refine va_all [1, 6, 8] (by kernel_rfl) (by simp) ⟨⟨_, rfl, ?_⟩, ⟨_, rfl, ?_⟩, ⟨_, rfl, ?_⟩, trivial⟩
                  · refine vl_load rfl rfl rfl rfl rfl rfl rfl (by decide) (dk rfl) ?_
                    refine vl_nil ?_
                    refine va_all [6, 8] (by kernel_rfl) (by simp) ⟨⟨_, rfl, ?_⟩, ⟨_, rfl, ?_⟩, trivial⟩
                    · refine vl_makeSlice rfl rfl rfl rfl rfl (by omega) (by omega) (by show ((16 : Nat) : Int) * _ ≤ _; omega) (by decide) (dk rfl) ?_
                      refine vl_nil ?_
                      refine va_all [8] (by kernel_rfl) (by simp) ⟨⟨_, rfl, ?_⟩, trivial⟩
                      refine vl_makeSlice rfl rfl rfl rfl rfl (by omega) (by omega) (by show ((1 : Nat) : Int) * _ ≤ _; omega) (by decide) (dk rfl) ?_
                      refine vl_nil ?_
                      refine va_q 11 rfl (by kernel_rfl) (by kernel_rfl) (by kernel_rfl) (q_build rfl rfl rfl rfl rfl) (dk rfl) ?_
                      refine va_all [12] (by kernel_rfl) (by simp) ⟨⟨_, rfl, ?_⟩, trivial⟩
                      refine vl_bslice rfl rfl rfl rfl rfl rfl ⟨rfl, trivial⟩ (by decide) (by decide) (dk rfl) ?_
                      refine vl_nil ?_
                      refine va_all [13] (by kernel_rfl) (by simp) ⟨⟨_, rfl, ?_⟩, trivial⟩
                      refine vl_append rfl rfl rfl rfl (fun _ h => TypeDesc.noConfusion h) rfl rfl rfl (by rw [Nat.zero_add]; exact Nat.le_of_eq (by simp [clo_len])) (src_row rfl rfl rfl rfl) (by show (r.length + 1) * 80 ≤ _; omega) (by show r.length + 1 < _; omega) (dk rfl) ?_
                      refine vl_nil ?_
                      refine va_q 14 rfl (by kernel_rfl) (by kernel_rfl) (by kernel_rfl) (q_fieldAddr 0 rfl rfl rfl rfl (by decide) rfl rfl) (dk rfl) ?_
                      refine va_all [15] (by kernel_rfl) (by simp) ⟨⟨_, rfl, ?_⟩, trivial⟩
                      refine vl_store rfl rfl rfl rfl rfl rfl (Nat.le_of_ble_eq_true rfl) trivial ?_
                      refine vl_nil ?_
                      refine va_done (by kernel_rfl) ?_
                      refine hK14 _ ?_
                      refine wk_weak (Weak.node (m := 24) rfl (congrArg (Vm.Node.mk 6) (app_take (by simp)))) ?_
                      refine wk_weak (Weak.node (m := 21) (nd' := ⟨1, clo ((List.replicate (byteAt t 2) (⟨#[]⟩ : ByteArray)).map strC)⟩) rfl (congrArg (Vm.Node.mk 1) (rep_clo (f := strC) (x := ⟨#[]⟩) (n := byteAt t 2)))) ?_
                      refine wk_weak (Weak.node (m := 22) (nd' := ⟨1, clo ((List.replicate (byteAt t 2) false).map boolC)⟩) rfl (congrArg (Vm.Node.mk 1) (rep_clo (f := boolC) (x := false) (n := byteAt t 2)))) ?_
                      refine wk_weak (Weak.close1 (nm := 24) (i := r.length) (j := 3) (m := 21) (es := (List.replicate (byteAt t 2) (⟨#[]⟩ : ByteArray)).map strC) rfl (app_get (by simp)) rfl rfl (by simp) (by decide)) ?_
                      refine wk_weak (Weak.close1 (nm := 24) (i := r.length) (j := 4) (m := 22) (es := (List.replicate (byteAt t 2) false).map boolC) rfl (set_get (app_lt (by simp))) rfl rfl (by simp) (by decide)) ?_
                      refine wk_weak (Weak.node (m := 24) (nd' := ⟨6, clo ((r ++ [fresh fr t now]).map heldO)⟩) rfl (congrArg (Vm.Node.mk 6) ((List.set_set _).trans ((app_set (by simp)).trans (clo_one (x := fresh fr t now)))))) ?_
                      refine wk_weak (Weak.close1 (nm := 19) (i := 0) (j := 0) (m := 24) (es := (r ++ [fresh fr t now]).map heldO) rfl rfl rfl rfl (by simp) (by decide)) ?_
                      exact ⟨_, ⟨r ++ [fresh fr t now], r.length, ⟨by simp, by simp; omega, .inl ⟨by rw [hr], by rw [hr], hnew⟩⟩, rfl⟩, (Weak.cut _ _ _ (Nat.le_of_ble_eq_true rfl) ⟨⟨rfl, rfl⟩, ⟨rfl, rfl⟩, ⟨rfl, rfl⟩, ⟨rfl, rfl⟩, ⟨rfl, rfl⟩, ⟨rfl, rfl⟩, ⟨rfl, rfl⟩, ⟨rfl, rfl⟩, ⟨rfl, rfl⟩, trivial⟩ ⟨⟨Nat.le_of_ble_eq_true rfl, rfl, belN_all rfl⟩, ⟨Nat.le_of_ble_eq_true rfl, rfl, belN_all rfl⟩, trivial⟩ rfl)⟩
                    · refine vl_makeSlice rfl rfl rfl rfl rfl (by omega) (by omega) (by show ((1 : Nat) : Int) * _ ≤ _; omega) (by decide) (dk rfl) ?_
                      refine vl_nil ?_
                      refine va_all [6] (by kernel_rfl) (by simp) ⟨⟨_, rfl, ?_⟩, trivial⟩
                      refine vl_makeSlice rfl rfl rfl rfl rfl (by omega) (by omega) (by show ((16 : Nat) : Int) * _ ≤ _; omega) (by decide) (dk rfl) ?_
                      refine vl_nil ?_
                      refine va_q 11 rfl (by kernel_rfl) (by kernel_rfl) (by kernel_rfl) (q_build rfl rfl rfl rfl rfl) (dk rfl) ?_
                      refine va_all [12] (by kernel_rfl) (by simp) ⟨⟨_, rfl, ?_⟩, trivial⟩
                      refine vl_bslice rfl rfl rfl rfl rfl rfl ⟨rfl, trivial⟩ (by decide) (by decide) (dk rfl) ?_
                      refine vl_nil ?_
                      refine va_all [13] (by kernel_rfl) (by simp) ⟨⟨_, rfl, ?_⟩, trivial⟩
                      refine vl_append rfl rfl rfl rfl (fun _ h => TypeDesc.noConfusion h) rfl rfl rfl (by rw [Nat.zero_add]; exact Nat.le_of_eq (by simp [clo_len])) (src_row rfl rfl rfl rfl) (by show (r.length + 1) * 80 ≤ _; omega) (by show r.length + 1 < _; omega) (dk rfl) ?_
                      refine vl_nil ?_
                      refine va_q 14 rfl (by kernel_rfl) (by kernel_rfl) (by kernel_rfl) (q_fieldAddr 0 rfl rfl rfl rfl (by decide) rfl rfl) (dk rfl) ?_
                      refine va_all [15] (by kernel_rfl) (by simp) ⟨⟨_, rfl, ?_⟩, trivial⟩
                      refine vl_store rfl rfl rfl rfl rfl rfl (Nat.le_of_ble_eq_true rfl) trivial ?_
                      refine vl_nil ?_
                      refine va_done (by kernel_rfl) ?_
                      refine hK14 _ ?_
                      refine wk_weak (Weak.node (m := 24) rfl (congrArg (Vm.Node.mk 6) (app_take (by simp)))) ?_
                      refine wk_weak (Weak.node (m := 22) (nd' := ⟨1, clo ((List.replicate (byteAt t 2) (⟨#[]⟩ : ByteArray)).map strC)⟩) rfl (congrArg (Vm.Node.mk 1) (rep_clo (f := strC) (x := ⟨#[]⟩) (n := byteAt t 2)))) ?_
                      refine wk_weak (Weak.node (m := 21) (nd' := ⟨1, clo ((List.replicate (byteAt t 2) false).map boolC)⟩) rfl (congrArg (Vm.Node.mk 1) (rep_clo (f := boolC) (x := false) (n := byteAt t 2)))) ?_
                      refine wk_weak (Weak.close1 (nm := 24) (i := r.length) (j := 3) (m := 22) (es := (List.replicate (byteAt t 2) (⟨#[]⟩ : ByteArray)).map strC) rfl (app_get (by simp)) rfl rfl (by simp) (by decide)) ?_
                      refine wk_weak (Weak.close1 (nm := 24) (i := r.length) (j := 4) (m := 21) (es := (List.replicate (byteAt t 2) false).map boolC) rfl (set_get (app_lt (by simp))) rfl rfl (by simp) (by decide)) ?_
                      refine wk_weak (Weak.node (m := 24) (nd' := ⟨6, clo ((r ++ [fresh fr t now]).map heldO)⟩) rfl (congrArg (Vm.Node.mk 6) ((List.set_set _).trans ((app_set (by simp)).trans (clo_one (x := fresh fr t now)))))) ?_
                      refine wk_weak (Weak.close1 (nm := 19) (i := 0) (j := 0) (m := 24) (es := (r ++ [fresh fr t now]).map heldO) rfl rfl rfl rfl (by simp) (by decide)) ?_
                      exact ⟨_, ⟨r ++ [fresh fr t now], r.length, ⟨by simp, by simp; omega, .inl ⟨by rw [hr], by rw [hr], hnew⟩⟩, rfl⟩, (Weak.cut _ _ _ (Nat.le_of_ble_eq_true rfl) ⟨⟨rfl, rfl⟩, ⟨rfl, rfl⟩, ⟨rfl, rfl⟩, ⟨rfl, rfl⟩, ⟨rfl, rfl⟩, ⟨rfl, rfl⟩, ⟨rfl, rfl⟩, ⟨rfl, rfl⟩, ⟨rfl, rfl⟩, trivial⟩ ⟨⟨Nat.le_of_ble_eq_true rfl, rfl, belN_all rfl⟩, ⟨Nat.le_of_ble_eq_true rfl, rfl, belN_all rfl⟩, trivial⟩ rfl)⟩
                  · refine vl_makeSlice rfl rfl rfl rfl rfl (by omega) (by omega) (by show ((16 : Nat) : Int) * _ ≤ _; omega) (by decide) (dk rfl) ?_
                    refine vl_nil ?_
                    refine va_all [1, 8] (by kernel_rfl) (by simp) ⟨⟨_, rfl, ?_⟩, ⟨_, rfl, ?_⟩, trivial⟩
                    · refine vl_load rfl rfl rfl rfl rfl rfl rfl (by decide) (dk rfl) ?_
                      refine vl_nil ?_
                      refine va_all [8] (by kernel_rfl) (by simp) ⟨⟨_, rfl, ?_⟩, trivial⟩
                      refine vl_makeSlice rfl rfl rfl rfl rfl (by omega) (by omega) (by show ((1 : Nat) : Int) * _ ≤ _; omega) (by decide) (dk rfl) ?_
                      refine vl_nil ?_
                      refine va_q 11 rfl (by kernel_rfl) (by kernel_rfl) (by kernel_rfl) (q_build rfl rfl rfl rfl rfl) (dk rfl) ?_
                      refine va_all [12] (by kernel_rfl) (by simp) ⟨⟨_, rfl, ?_⟩, trivial⟩
                      refine vl_bslice rfl rfl rfl rfl rfl rfl ⟨rfl, trivial⟩ (by decide) (by decide) (dk rfl) ?_
                      refine vl_nil ?_
                      refine va_all [13] (by kernel_rfl) (by simp) ⟨⟨_, rfl, ?_⟩, trivial⟩
                      refine vl_append rfl rfl rfl rfl (fun _ h => TypeDesc.noConfusion h) rfl rfl rfl (by rw [Nat.zero_add]; exact Nat.le_of_eq (by simp [clo_len])) (src_row rfl rfl rfl rfl) (by show (r.length + 1) * 80 ≤ _; omega) (by show r.length + 1 < _; omega) (dk rfl) ?_
                      refine vl_nil ?_
                      refine va_q 14 rfl (by kernel_rfl) (by kernel_rfl) (by kernel_rfl) (q_fieldAddr 0 rfl rfl rfl rfl (by decide) rfl rfl) (dk rfl) ?_
                      refine va_all [15] (by kernel_rfl) (by simp) ⟨⟨_, rfl, ?_⟩, trivial⟩
                      refine vl_store rfl rfl rfl rfl rfl rfl (Nat.le_of_ble_eq_true rfl) trivial ?_
                      refine vl_nil ?_
                      refine va_done (by kernel_rfl) ?_
                      refine hK14 _ ?_
                      refine wk_weak (Weak.node (m := 24) rfl (congrArg (Vm.Node.mk 6) (app_take (by simp)))) ?_
                      refine wk_weak (Weak.node (m := 21) (nd' := ⟨1, clo ((List.replicate (byteAt t 2) (⟨#[]⟩ : ByteArray)).map strC)⟩) rfl (congrArg (Vm.Node.mk 1) (rep_clo (f := strC) (x := ⟨#[]⟩) (n := byteAt t 2)))) ?_
                      refine wk_weak (Weak.node (m := 22) (nd' := ⟨1, clo ((List.replicate (byteAt t 2) false).map boolC)⟩) rfl (congrArg (Vm.Node.mk 1) (rep_clo (f := boolC) (x := false) (n := byteAt t 2)))) ?_
                      refine wk_weak (Weak.close1 (nm := 24) (i := r.length) (j := 3) (m := 21) (es := (List.replicate (byteAt t 2) (⟨#[]⟩ : ByteArray)).map strC) rfl (app_get (by simp)) rfl rfl (by simp) (by decide)) ?_
                      refine wk_weak (Weak.close1 (nm := 24) (i := r.length) (j := 4) (m := 22) (es := (List.replicate (byteAt t 2) false).map boolC) rfl (set_get (app_lt (by simp))) rfl rfl (by simp) (by decide)) ?_
                      refine wk_weak (Weak.node (m := 24) (nd' := ⟨6, clo ((r ++ [fresh fr t now]).map heldO)⟩) rfl (congrArg (Vm.Node.mk 6) ((List.set_set _).trans ((app_set (by simp)).trans (clo_one (x := fresh fr t now)))))) ?_
                      refine wk_weak (Weak.close1 (nm := 19) (i := 0) (j := 0) (m := 24) (es := (r ++ [fresh fr t now]).map heldO) rfl rfl rfl rfl (by simp) (by decide)) ?_
                      exact ⟨_, ⟨r ++ [fresh fr t now], r.length, ⟨by simp, by simp; omega, .inl ⟨by rw [hr], by rw [hr], hnew⟩⟩, rfl⟩, (Weak.cut _ _ _ (Nat.le_of_ble_eq_true rfl) ⟨⟨rfl, rfl⟩, ⟨rfl, rfl⟩, ⟨rfl, rfl⟩, ⟨rfl, rfl⟩, ⟨rfl, rfl⟩, ⟨rfl, rfl⟩, ⟨rfl, rfl⟩, ⟨rfl, rfl⟩, ⟨rfl, rfl⟩, trivial⟩ ⟨⟨Nat.le_of_ble_eq_true rfl, rfl, belN_all rfl⟩, ⟨Nat.le_of_ble_eq_true rfl, rfl, belN_all rfl⟩, trivial⟩ rfl)⟩
                    · refine vl_makeSlice rfl rfl rfl rfl rfl (by omega) (by omega) (by show ((1 : Nat) : Int) * _ ≤ _; omega) (by decide) (dk rfl) ?_
                      refine vl_nil ?_
                      refine va_q 11 rfl (by kernel_rfl) (by kernel_rfl) (by kernel_rfl) (q_build rfl rfl rfl rfl rfl) (dk rfl) ?_
                      refine va_all [1, 12] (by kernel_rfl) (by simp) ⟨⟨_, rfl, ?_⟩, ⟨_, rfl, ?_⟩, trivial⟩
                      · refine vl_load rfl rfl rfl rfl rfl rfl rfl (by decide) (dk rfl) ?_
                        refine vl_nil ?_
                        refine va_all [12] (by kernel_rfl) (by simp) ⟨⟨_, rfl, ?_⟩, trivial⟩
                        refine vl_bslice rfl rfl rfl rfl rfl rfl ⟨rfl, trivial⟩ (by decide) (by decide) (dk rfl) ?_
                        refine vl_nil ?_
                        refine va_all [13] (by kernel_rfl) (by simp) ⟨⟨_, rfl, ?_⟩, trivial⟩
                        refine vl_append rfl rfl rfl rfl (fun _ h => TypeDesc.noConfusion h) rfl rfl rfl (by rw [Nat.zero_add]; exact Nat.le_of_eq (by simp [clo_len])) (src_row rfl rfl rfl rfl) (by show (r.length + 1) * 80 ≤ _; omega) (by show r.length + 1 < _; omega) (dk rfl) ?_
                        refine vl_nil ?_
                        refine va_q 14 rfl (by kernel_rfl) (by kernel_rfl) (by kernel_rfl) (q_fieldAddr 0 rfl rfl rfl rfl (by decide) rfl rfl) (dk rfl) ?_
                        refine va_all [15] (by kernel_rfl) (by simp) ⟨⟨_, rfl, ?_⟩, trivial⟩
                        refine vl_store rfl rfl rfl rfl rfl rfl (Nat.le_of_ble_eq_true rfl) trivial ?_
                        refine vl_nil ?_
                        refine va_done (by kernel_rfl) ?_
                        refine hK14 _ ?_
                        refine wk_weak (Weak.node (m := 24) rfl (congrArg (Vm.Node.mk 6) (app_take (by simp)))) ?_
                        refine wk_weak (Weak.node (m := 21) (nd' := ⟨1, clo ((List.replicate (byteAt t 2) (⟨#[]⟩ : ByteArray)).map strC)⟩) rfl (congrArg (Vm.Node.mk 1) (rep_clo (f := strC) (x := ⟨#[]⟩) (n := byteAt t 2)))) ?_
                        refine wk_weak (Weak.node (m := 22) (nd' := ⟨1, clo ((List.replicate (byteAt t 2) false).map boolC)⟩) rfl (congrArg (Vm.Node.mk 1) (rep_clo (f := boolC) (x := false) (n := byteAt t 2)))) ?_
                        refine wk_weak (Weak.close1 (nm := 24) (i := r.length) (j := 3) (m := 21) (es := (List.replicate (byteAt t 2) (⟨#[]⟩ : ByteArray)).map strC) rfl (app_get (by simp)) rfl rfl (by simp) (by decide)) ?_
                        refine wk_weak (Weak.close1 (nm := 24) (i := r.length) (j := 4) (m := 22) (es := (List.replicate (byteAt t 2) false).map boolC) rfl (set_get (app_lt (by simp))) rfl rfl (by simp) (by decide)) ?_
                        refine wk_weak (Weak.node (m := 24) (nd' := ⟨6, clo ((r ++ [fresh fr t now]).map heldO)⟩) rfl (congrArg (Vm.Node.mk 6) ((List.set_set _).trans ((app_set (by simp)).trans (clo_one (x := fresh fr t now)))))) ?_
                        refine wk_weak (Weak.close1 (nm := 19) (i := 0) (j := 0) (m := 24) (es := (r ++ [fresh fr t now]).map heldO) rfl rfl rfl rfl (by simp) (by decide)) ?_
                        exact ⟨_, ⟨r ++ [fresh fr t now], r.length, ⟨by simp, by simp; omega, .inl ⟨by rw [hr], by rw [hr], hnew⟩⟩, rfl⟩, (Weak.cut _ _ _ (Nat.le_of_ble_eq_true rfl) ⟨⟨rfl, rfl⟩, ⟨rfl, rfl⟩, ⟨rfl, rfl⟩, ⟨rfl, rfl⟩, ⟨rfl, rfl⟩, ⟨rfl, rfl⟩, ⟨rfl, rfl⟩, ⟨rfl, rfl⟩, ⟨rfl, rfl⟩, trivial⟩ ⟨⟨Nat.le_of_ble_eq_true rfl, rfl, belN_all rfl⟩, ⟨Nat.le_of_ble_eq_true rfl, rfl, belN_all rfl⟩, trivial⟩ rfl)⟩
                      · refine vl_bslice rfl rfl rfl rfl rfl rfl ⟨rfl, trivial⟩ (by decide) (by decide) (dk rfl) ?_
                        refine vl_nil ?_
                        refine va_all [1] (by kernel_rfl) (by simp) ⟨⟨_, rfl, ?_⟩, trivial⟩
                        refine vl_load rfl rfl rfl rfl rfl rfl rfl (by decide) (dk rfl) ?_
                        refine vl_nil ?_
                        refine va_all [13] (by kernel_rfl) (by simp) ⟨⟨_, rfl, ?_⟩, trivial⟩
                        refine vl_append rfl rfl rfl rfl (fun _ h => TypeDesc.noConfusion h) rfl rfl rfl (by rw [Nat.zero_add]; exact Nat.le_of_eq (by simp [clo_len])) (src_row rfl rfl rfl rfl) (by show (r.length + 1) * 80 ≤ _; omega) (by show r.length + 1 < _; omega) (dk rfl) ?_
                        refine vl_nil ?_
                        refine va_q 14 rfl (by kernel_rfl) (by kernel_rfl) (by kernel_rfl) (q_fieldAddr 0 rfl rfl rfl rfl (by decide) rfl rfl) (dk rfl) ?_
                        refine va_all [15] (by kernel_rfl) (by simp) ⟨⟨_, rfl, ?_⟩, trivial⟩
                        refine vl_store rfl rfl rfl rfl rfl rfl (Nat.le_of_ble_eq_true rfl) trivial ?_
                        refine vl_nil ?_
                        refine va_done (by kernel_rfl) ?_
                        refine hK14 _ ?_
                        refine wk_weak (Weak.node (m := 24) rfl (congrArg (Vm.Node.mk 6) (app_take (by simp)))) ?_
                        refine wk_weak (Weak.node (m := 21) (nd' := ⟨1, clo ((List.replicate (byteAt t 2) (⟨#[]⟩ : ByteArray)).map strC)⟩) rfl (congrArg (Vm.Node.mk 1) (rep_clo (f := strC) (x := ⟨#[]⟩) (n := byteAt t 2)))) ?_
                        refine wk_weak (Weak.node (m := 22) (nd' := ⟨1, clo ((List.replicate (byteAt t 2) false).map boolC)⟩) rfl (congrArg (Vm.Node.mk 1) (rep_clo (f := boolC) (x := false) (n := byteAt t 2)))) ?_
                        refine wk_weak (Weak.close1 (nm := 24) (i := r.length) (j := 3) (m := 21) (es := (List.replicate (byteAt t 2) (⟨#[]⟩ : ByteArray)).map strC) rfl (app_get (by simp)) rfl rfl (by simp) (by decide)) ?_
                        refine wk_weak (Weak.close1 (nm := 24) (i := r.length) (j := 4) (m := 22) (es := (List.replicate (byteAt t 2) false).map boolC) rfl (set_get (app_lt (by simp))) rfl rfl (by simp) (by decide)) ?_
                        refine wk_weak (Weak.node (m := 24) (nd' := ⟨6, clo ((r ++ [fresh fr t now]).map heldO)⟩) rfl (congrArg (Vm.Node.mk 6) ((List.set_set _).trans ((app_set (by simp)).trans (clo_one (x := fresh fr t now)))))) ?_
                        refine wk_weak (Weak.close1 (nm := 19) (i := 0) (j := 0) (m := 24) (es := (r ++ [fresh fr t now]).map heldO) rfl rfl rfl rfl (by simp) (by decide)) ?_
                        exact ⟨_, ⟨r ++ [fresh fr t now], r.length, ⟨by simp, by simp; omega, .inl ⟨by rw [hr], by rw [hr], hnew⟩⟩, rfl⟩, (Weak.cut _ _ _ (Nat.le_of_ble_eq_true rfl) ⟨⟨rfl, rfl⟩, ⟨rfl, rfl⟩, ⟨rfl, rfl⟩, ⟨rfl, rfl⟩, ⟨rfl, rfl⟩, ⟨rfl, rfl⟩, ⟨rfl, rfl⟩, ⟨rfl, rfl⟩, ⟨rfl, rfl⟩, trivial⟩ ⟨⟨Nat.le_of_ble_eq_true rfl, rfl, belN_all rfl⟩, ⟨Nat.le_of_ble_eq_true rfl, rfl, belN_all rfl⟩, trivial⟩ rfl)⟩
                  · refine vl_makeSlice rfl rfl rfl rfl rfl (by omega) (by omega) (by show ((1 : Nat) : Int) * _ ≤ _; omega) (by decide) (dk rfl) ?_
                    refine vl_nil ?_
                    refine va_all [1, 6] (by kernel_rfl) (by simp) ⟨⟨_, rfl, ?_⟩, ⟨_, rfl, ?_⟩, trivial⟩
                    · refine vl_load rfl rfl rfl rfl rfl rfl rfl (by decide) (dk rfl) ?_
                      refine vl_nil ?_
                      refine va_all [6] (by kernel_rfl) (by simp) ⟨⟨_, rfl, ?_⟩, trivial⟩
                      refine vl_makeSlice rfl rfl rfl rfl rfl (by omega) (by omega) (by show ((16 : Nat) : Int) * _ ≤ _; omega) (by decide) (dk rfl) ?_
                      refine vl_nil ?_
                      refine va_q 11 rfl (by kernel_rfl) (by kernel_rfl) (by kernel_rfl) (q_build rfl rfl rfl rfl rfl) (dk rfl) ?_
                      refine va_all [12] (by kernel_rfl) (by simp) ⟨⟨_, rfl, ?_⟩, trivial⟩
                      refine vl_bslice rfl rfl rfl rfl rfl rfl ⟨rfl, trivial⟩ (by decide) (by decide) (dk rfl) ?_
                      refine vl_nil ?_
                      refine va_all [13] (by kernel_rfl) (by simp) ⟨⟨_, rfl, ?_⟩, trivial⟩
                      refine vl_append rfl rfl rfl rfl (fun _ h => TypeDesc.noConfusion h) rfl rfl rfl (by rw [Nat.zero_add]; exact Nat.le_of_eq (by simp [clo_len])) (src_row rfl rfl rfl rfl) (by show (r.length + 1) * 80 ≤ _; omega) (by show r.length + 1 < _; omega) (dk rfl) ?_
                      refine vl_nil ?_
                      refine va_q 14 rfl (by kernel_rfl) (by kernel_rfl) (by kernel_rfl) (q_fieldAddr 0 rfl rfl rfl rfl (by decide) rfl rfl) (dk rfl) ?_
                      refine va_all [15] (by kernel_rfl) (by simp) ⟨⟨_, rfl, ?_⟩, trivial⟩
                      refine vl_store rfl rfl rfl rfl rfl rfl (Nat.le_of_ble_eq_true rfl) trivial ?_
                      refine vl_nil ?_
                      refine va_done (by kernel_rfl) ?_
                      refine hK14 _ ?_
                      refine wk_weak (Weak.node (m := 24) rfl (congrArg (Vm.Node.mk 6) (app_take (by simp)))) ?_
                      refine wk_weak (Weak.node (m := 22) (nd' := ⟨1, clo ((List.replicate (byteAt t 2) (⟨#[]⟩ : ByteArray)).map strC)⟩) rfl (congrArg (Vm.Node.mk 1) (rep_clo (f := strC) (x := ⟨#[]⟩) (n := byteAt t 2)))) ?_
                      refine wk_weak (Weak.node (m := 21) (nd' := ⟨1, clo ((List.replicate (byteAt t 2) false).map boolC)⟩) rfl (congrArg (Vm.Node.mk 1) (rep_clo (f := boolC) (x := false) (n := byteAt t 2)))) ?_
                      refine wk_weak (Weak.close1 (nm := 24) (i := r.length) (j := 3) (m := 22) (es := (List.replicate (byteAt t 2) (⟨#[]⟩ : ByteArray)).map strC) rfl (app_get (by simp)) rfl rfl (by simp) (by decide)) ?_
                      refine wk_weak (Weak.close1 (nm := 24) (i := r.length) (j := 4) (m := 21) (es := (List.replicate (byteAt t 2) false).map boolC) rfl (set_get (app_lt (by simp))) rfl rfl (by simp) (by decide)) ?_
                      refine wk_weak (Weak.node (m := 24) (nd' := ⟨6, clo ((r ++ [fresh fr t now]).map heldO)⟩) rfl (congrArg (Vm.Node.mk 6) ((List.set_set _).trans ((app_set (by simp)).trans (clo_one (x := fresh fr t now)))))) ?_
                      refine wk_weak (Weak.close1 (nm := 19) (i := 0) (j := 0) (m := 24) (es := (r ++ [fresh fr t now]).map heldO) rfl rfl rfl rfl (by simp) (by decide)) ?_
                      exact ⟨_, ⟨r ++ [fresh fr t now], r.length, ⟨by simp, by simp; omega, .inl ⟨by rw [hr], by rw [hr], hnew⟩⟩, rfl⟩, (Weak.cut _ _ _ (Nat.le_of_ble_eq_true rfl) ⟨⟨rfl, rfl⟩, ⟨rfl, rfl⟩, ⟨rfl, rfl⟩, ⟨rfl, rfl⟩, ⟨rfl, rfl⟩, ⟨rfl, rfl⟩, ⟨rfl, rfl⟩, ⟨rfl, rfl⟩, ⟨rfl, rfl⟩, trivial⟩ ⟨⟨Nat.le_of_ble_eq_true rfl, rfl, belN_all rfl⟩, ⟨Nat.le_of_ble_eq_true rfl, rfl, belN_all rfl⟩, trivial⟩ rfl)⟩
                    · refine vl_makeSlice rfl rfl rfl rfl rfl (by omega) (by omega) (by show ((16 : Nat) : Int) * _ ≤ _; omega) (by decide) (dk rfl) ?_
                      refine vl_nil ?_
                      refine va_q 11 rfl (by kernel_rfl) (by kernel_rfl) (by kernel_rfl) (q_build rfl rfl rfl rfl rfl) (dk rfl) ?_
                      refine va_all [1, 12] (by kernel_rfl) (by simp) ⟨⟨_, rfl, ?_⟩, ⟨_, rfl, ?_⟩, trivial⟩
                      · refine vl_load rfl rfl rfl rfl rfl rfl rfl (by decide) (dk rfl) ?_
                        refine vl_nil ?_
                        refine va_all [12] (by kernel_rfl) (by simp) ⟨⟨_, rfl, ?_⟩, trivial⟩
                        refine vl_bslice rfl rfl rfl rfl rfl rfl ⟨rfl, trivial⟩ (by decide) (by decide) (dk rfl) ?_
                        refine vl_nil ?_
                        refine va_all [13] (by kernel_rfl) (by simp) ⟨⟨_, rfl, ?_⟩, trivial⟩
                        refine vl_append rfl rfl rfl rfl (fun _ h => TypeDesc.noConfusion h) rfl rfl rfl (by rw [Nat.zero_add]; exact Nat.le_of_eq (by simp [clo_len])) (src_row rfl rfl rfl rfl) (by show (r.length + 1) * 80 ≤ _; omega) (by show r.length + 1 < _; omega) (dk rfl) ?_
                        refine vl_nil ?_
                        refine va_q 14 rfl (by kernel_rfl) (by kernel_rfl) (by kernel_rfl) (q_fieldAddr 0 rfl rfl rfl rfl (by decide) rfl rfl) (dk rfl) ?_
                        refine va_all [15] (by kernel_rfl) (by simp) ⟨⟨_, rfl, ?_⟩, trivial⟩
                        refine vl_store rfl rfl rfl rfl rfl rfl (Nat.le_of_ble_eq_true rfl) trivial ?_
                        refine vl_nil ?_
                        refine va_done (by kernel_rfl) ?_
                        refine hK14 _ ?_
                        refine wk_weak (Weak.node (m := 24) rfl (congrArg (Vm.Node.mk 6) (app_take (by simp)))) ?_
                        refine wk_weak (Weak.node (m := 22) (nd' := ⟨1, clo ((List.replicate (byteAt t 2) (⟨#[]⟩ : ByteArray)).map strC)⟩) rfl (congrArg (Vm.Node.mk 1) (rep_clo (f := strC) (x := ⟨#[]⟩) (n := byteAt t 2)))) ?_
                        refine wk_weak (Weak.node (m := 21) (nd' := ⟨1, clo ((List.replicate (byteAt t 2) false).map boolC)⟩) rfl (congrArg (Vm.Node.mk 1) (rep_clo (f := boolC) (x := false) (n := byteAt t 2)))) ?_
                        refine wk_weak (Weak.close1 (nm := 24) (i := r.length) (j := 3) (m := 22) (es := (List.replicate (byteAt t 2) (⟨#[]⟩ : ByteArray)).map strC) rfl (app_get (by simp)) rfl rfl (by simp) (by decide)) ?_
                        refine wk_weak (Weak.close1 (nm := 24) (i := r.length) (j := 4) (m := 21) (es := (List.replicate (byteAt t 2) false).map boolC) rfl (set_get (app_lt (by simp))) rfl rfl (by simp) (by decide)) ?_
                        refine wk_weak (Weak.node (m := 24) (nd' := ⟨6, clo ((r ++ [fresh fr t now]).map heldO)⟩) rfl (congrArg (Vm.Node.mk 6) ((List.set_set _).trans ((app_set (by simp)).trans (clo_one (x := fresh fr t now)))))) ?_
                        refine wk_weak (Weak.close1 (nm := 19) (i := 0) (j := 0) (m := 24) (es := (r ++ [fresh fr t now]).map heldO) rfl rfl rfl rfl (by simp) (by decide)) ?_
                        exact ⟨_, ⟨r ++ [fresh fr t now], r.length, ⟨by simp, by simp; omega, .inl ⟨by rw [hr], by rw [hr], hnew⟩⟩, rfl⟩, (Weak.cut _ _ _ (Nat.le_of_ble_eq_true rfl) ⟨⟨rfl, rfl⟩, ⟨rfl, rfl⟩, ⟨rfl, rfl⟩, ⟨rfl, rfl⟩, ⟨rfl, rfl⟩, ⟨rfl, rfl⟩, ⟨rfl, rfl⟩, ⟨rfl, rfl⟩, ⟨rfl, rfl⟩, trivial⟩ ⟨⟨Nat.le_of_ble_eq_true rfl, rfl, belN_all rfl⟩, ⟨Nat.le_of_ble_eq_true rfl, rfl, belN_all rfl⟩, trivial⟩ rfl)⟩
                      · refine vl_bslice rfl rfl rfl rfl rfl rfl ⟨rfl, trivial⟩ (by decide) (by decide) (dk rfl) ?_
                        refine vl_nil ?_
                        refine va_all [1] (by kernel_rfl) (by simp) ⟨⟨_, rfl, ?_⟩, trivial⟩
                        refine vl_load rfl rfl rfl rfl rfl rfl rfl (by decide) (dk rfl) ?_
                        refine vl_nil ?_
                        refine va_all [13] (by kernel_rfl) (by simp) ⟨⟨_, rfl, ?_⟩, trivial⟩
                        refine vl_append rfl rfl rfl rfl (fun _ h => TypeDesc.noConfusion h) rfl rfl rfl (by rw [Nat.zero_add]; exact Nat.le_of_eq (by simp [clo_len])) (src_row rfl rfl rfl rfl) (by show (r.length + 1) * 80 ≤ _; omega) (by show r.length + 1 < _; omega) (dk rfl) ?_
                        refine vl_nil ?_
                        refine va_q 14 rfl (by kernel_rfl) (by kernel_rfl) (by kernel_rfl) (q_fieldAddr 0 rfl rfl rfl rfl (by decide) rfl rfl) (dk rfl) ?_
                        refine va_all [15] (by kernel_rfl) (by simp) ⟨⟨_, rfl, ?_⟩, trivial⟩
                        refine vl_store rfl rfl rfl rfl rfl rfl (Nat.le_of_ble_eq_true rfl) trivial ?_
                        refine vl_nil ?_
                        refine va_done (by kernel_rfl) ?_
                        refine hK14 _ ?_
                        refine wk_weak (Weak.node (m := 24) rfl (congrArg (Vm.Node.mk 6) (app_take (by simp)))) ?_
                        refine wk_weak (Weak.node (m := 22) (nd' := ⟨1, clo ((List.replicate (byteAt t 2) (⟨#[]⟩ : ByteArray)).map strC)⟩) rfl (congrArg (Vm.Node.mk 1) (rep_clo (f := strC) (x := ⟨#[]⟩) (n := byteAt t 2)))) ?_
                        refine wk_weak (Weak.node (m := 21) (nd' := ⟨1, clo ((List.replicate (byteAt t 2) false).map boolC)⟩) rfl (congrArg (Vm.Node.mk 1) (rep_clo (f := boolC) (x := false) (n := byteAt t 2)))) ?_
                        refine wk_weak (Weak.close1 (nm := 24) (i := r.length) (j := 3) (m := 22) (es := (List.replicate (byteAt t 2) (⟨#[]⟩ : ByteArray)).map strC) rfl (app_get (by simp)) rfl rfl (by simp) (by decide)) ?_
                        refine wk_weak (Weak.close1 (nm := 24) (i := r.length) (j := 4) (m := 21) (es := (List.replicate (byteAt t 2) false).map boolC) rfl (set_get (app_lt (by simp))) rfl rfl (by simp) (by decide)) ?_
                        refine wk_weak (Weak.node (m := 24) (nd' := ⟨6, clo ((r ++ [fresh fr t now]).map heldO)⟩) rfl (congrArg (Vm.Node.mk 6) ((List.set_set _).trans ((app_set (by simp)).trans (clo_one (x := fresh fr t now)))))) ?_
                        refine wk_weak (Weak.close1 (nm := 19) (i := 0) (j := 0) (m := 24) (es := (r ++ [fresh fr t now]).map heldO) rfl rfl rfl rfl (by simp) (by decide)) ?_
                        exact ⟨_, ⟨r ++ [fresh fr t now], r.length, ⟨by simp, by simp; omega, .inl ⟨by rw [hr], by rw [hr], hnew⟩⟩, rfl⟩, (Weak.cut _ _ _ (Nat.le_of_ble_eq_true rfl) ⟨⟨rfl, rfl⟩, ⟨rfl, rfl⟩, ⟨rfl, rfl⟩, ⟨rfl, rfl⟩, ⟨rfl, rfl⟩, ⟨rfl, rfl⟩, ⟨rfl, rfl⟩, ⟨rfl, rfl⟩, ⟨rfl, rfl⟩, trivial⟩ ⟨⟨Nat.le_of_ble_eq_true rfl, rfl, belN_all rfl⟩, ⟨Nat.le_of_ble_eq_true rfl, rfl, belN_all rfl⟩, trivial⟩ rfl)⟩
                · replace h81 := lss_nof h81
                  obtain ⟨i, hil, rfl, rfl, hix, hct⟩ := hc.resolve_left (fun h => by omega)
                  refine vl_nil ?_
                  refine hK15 _ ?_
                  refine vc_cond_false rfl ?_
                  refine vc_skip ?_
                  refine hK14 _ ?_
                  exact ⟨_, ⟨l1, i, ⟨hil, hl13, .inr ⟨rfl, hix, fun _ => hct⟩⟩, rfl⟩, (Weak.cut _ _ _ (Nat.le_of_ble_eq_true rfl) ⟨⟨rfl, rfl⟩, ⟨rfl, rfl⟩, ⟨rfl, rfl⟩, ⟨rfl, rfl⟩, ⟨rfl, rfl⟩, ⟨rfl, rfl⟩, ⟨rfl, rfl⟩, ⟨rfl, rfl⟩, ⟨rfl, rfl⟩, trivial⟩ ⟨⟨Nat.le_of_ble_eq_true rfl, rfl, belN_all rfl⟩, ⟨Nat.le_of_ble_eq_true rfl, rfl, belN_all rfl⟩, trivial⟩ rfl)⟩
              obtain ⟨l3, a, ⟨hal, hl33, hfl⟩, rfl⟩ := hI
              refine vc_seq fun K20 hK20 => ?_
              have hac : a < (clo (l3.map heldO)).length := by simp [clo_len]; exact hal
              obtain ⟨hhl, hpl⟩ := fill_len hsg hfl hal
              have hph : byteAt t 1 < l3[a].hav.length := by omega
              have hpp : byteAt t 1 < l3[a].parts.length := by omega
              refine vc_region ?_
              refine vl_q (q_fieldAddr 0 rfl rfl rfl rfl (by decide) rfl rfl) (dk rfl) ?_
              refine vl_open (nm := 19) (i := 0) (j := 0) rfl rfl rfl rfl rfl rfl ?_
              simp only [List.set_set, List.length_map, Int.toNat_natCast, Nat.add_zero]
              refine vl_load rfl rfl rfl rfl rfl rfl rfl (by decide) (dk rfl) ?_
              refine vl_q (q_move rfl) (dk rfl) ?_
              refine vl_q (q_indexAddr rfl rfl rfl rfl rfl rfl rfl (by omega) (by omega)) (dk rfl) ?_
              try simp only [List.set_set, List.length_map, Int.toNat_natCast, Nat.add_zero]
              refine vl_q (q_assign rfl) (dk rfl) ?_
              refine vl_nil ?_
              refine hK20 _ ?_
              refine vc_seq fun K21 hK21 => ?_
              refine vc_seq fun K22 hK22 => ?_
              refine vc_region ?_
              refine vl_q (q_move rfl) (dk rfl) ?_
              refine vl_q (q_nilCheck rfl rfl) (dk rfl) ?_
              refine vl_q (q_fieldAddr 4 rfl rfl rfl rfl (by decide) rfl rfl) (dk rfl) ?_
              refine vl_open (nm := 20) (i := a) (j := 4) rfl rfl rfl (clo_get hal) rfl rfl ?_
              simp only [List.set_set, List.length_map, Int.toNat_natCast, Nat.add_zero]
              refine vl_load rfl rfl rfl (set_get hac) rfl rfl rfl (by decide) (dk rfl) ?_
              refine vl_q (q_move rfl) (dk rfl) ?_
              refine vl_q (q_indexAddr rfl rfl rfl rfl rfl rfl rfl (by omega) (by omega)) (dk rfl) ?_
              try simp only [List.set_set, List.length_map, Int.toNat_natCast, Nat.add_zero]
              refine vl_load rfl rfl rfl (clo_get hph) rfl rfl rfl (by decide) (dk rfl) ?_
              refine vl_bool 118 rfl (fun h118 => ?_) (fun h118 => ?_)
              · have hbt : l3[a].hav[byteAt t 1] = true := h118
                refine vl_q (q_not rfl) (dk rfl) ?_
                refine vl_nil ?_
                refine hK22 _ ?_
                refine vc_cond_false rfl ?_
                refine vc_skip ?_
                refine hK21 _ ?_
                refine vc_seq fun K23 hK23 => ?_
                refine vc_seq fun K24 hK24 => ?_
                have hy := put_t (s := part t) hph hbt
                refine vc_region ?_
                refine vl_q (q_move rfl) (dk rfl) ?_
                refine vl_q (q_nilCheck rfl rfl) (dk rfl) ?_
                refine vl_q (q_fieldAddr 4 rfl rfl rfl rfl (by decide) rfl rfl) (dk rfl) ?_
                refine vl_load rfl rfl rfl (set_get hac) rfl rfl rfl (by decide) (dk rfl) ?_
                refine vl_callP (c_Contains_bool l3[a].hav false) rfl rfl ⟨XOk.snapH rfl (by simp) (by simp) (map_wid fun _ => rfl) (boolsC_shr _), XOk.val _, trivial⟩ rfl (.inl rfl) (dk rfl) ?_
                refine vl_bool 137 rfl (fun h137 => ?_) (fun h137 => ?_)
                · have hnf : (putPart l3[a] (byteAt t 1) (part t)).hav.all id = false := by rw [hy]; exact mem_all h137
                  refine vl_nil ?_
                  refine hK24 _ ?_
                  refine vc_cond_true rfl ?_
                  refine vc_seq fun K25 hK25 => ?_
                  refine vc_weak (Weak.close1 (nm := 20) (i := a) (j := 4) (m := 21) (es := l3[a].hav.map boolC) rfl (set_get hac) rfl rfl (by simp) (by decide)) ?_
                  try simp only [List.set_set, List.length_map, Int.toNat_natCast, Nat.add_zero]
                  refine vc_weak (Weak.node (m := 20) (nd' := ⟨6, clo ((l3.set a (putPart l3[a] (byteAt t 1) (part t))).map heldO)⟩) rfl (congrArg (Vm.Node.mk 6) (by rw [hy, ← clo_set]; rfl))) ?_
                  refine vc_region ?_
                  refine vl_load rfl rfl rfl rfl rfl rfl rfl (by decide) (dk rfl) ?_
                  refine vl_store rfl rfl rfl rfl rfl rfl (Nat.le_of_ble_eq_true rfl) trivial ?_
                  refine vl_q (q_assign rfl) (dk rfl) ?_
                  refine vl_q (q_assign rfl) (dk rfl) ?_
                  refine vl_nil ?_
                  refine hK25 _ ?_
                  refine vc_ret ?_
                  have e : addP l fr t now = (l3.set a (putPart l3[a] (byteAt t 1) (part t)), ⟨#[]⟩, false) := fill_out hok h1 hfl hal hnf
                  refine ret_g [20] rfl (.cons (res_cell rfl rfl rfl rfl rfl rfl rfl (by decide)) (.cons (res_tmp rfl) (.cons (res_tmp rfl) .nil))) (by rw [e]; first | rfl | (simp only [List.length_set]; rfl) | (simp only [List.length_eraseIdx, if_pos hal, hy]; rfl)) rfl (nodupB_ok rfl) ⟨by decide, trivial⟩ ⟨⟨⟨6, clo ((addP l fr t now).1.map heldO)⟩, some_node (by rw [e]), NR.clo _ _ _ _⟩, trivial⟩ trivial (Nat.zero_le _)
                · have hfu : (putPart l3[a] (byteAt t 1) (part t)).hav.all id = true := by rw [hy]; exact nmem_all h137
                  refine vl_nil ?_
                  refine hK24 _ ?_
                  refine vc_cond_false rfl ?_
                  refine vc_skip ?_
                  refine hK23 _ ?_
                  refine vc_seq fun K26 hK26 => ?_
                  have hsz := fill_sz hsg hfl hal hrp (by omega)
                  rw [hy] at hsz
                  try simp only at hsz
                  refine vc_region ?_
                  refine vl_q (q_move rfl) (dk rfl) ?_
                  refine vl_q (q_nilCheck rfl rfl) (dk rfl) ?_
                  refine vl_q (q_fieldAddr 3 rfl rfl rfl rfl (by decide) rfl rfl) (dk rfl) ?_
                  refine vl_open (nm := 20) (i := a) (j := 3) rfl rfl rfl (set_get hac) rfl rfl ?_
                  simp only [List.set_set, List.length_map, Int.toNat_natCast, Nat.add_zero]
                  refine vl_load rfl rfl rfl (set_get hac) rfl rfl rfl (by decide) (dk rfl) ?_
                  refine vl_callP (c_Join l3[a].parts (by first | omega | (rw [List.length_set]; omega)) (by omega)) rfl rfl ⟨XOk.snapH rfl (by simp) (by simp) (map_wid fun _ => rfl) (strsC_shr _), XOk.val _, trivial⟩ rfl (.inl rfl) (dk rfl) ?_
                  refine vl_q (q_assign rfl) (dk rfl) ?_
                  refine vl_nil ?_
                  refine hK26 _ ?_
                  refine vc_seq fun K27 hK27 => ?_
                  refine vc_weak (Weak.close1 (nm := 20) (i := a) (j := 4) (m := 21) (es := l3[a].hav.map boolC) rfl (set_get hac) rfl rfl (by simp) (by decide)) ?_
                  try simp only [List.set_set, List.length_map, Int.toNat_natCast, Nat.add_zero]
                  refine vc_weak (Weak.close1 (nm := 20) (i := a) (j := 3) (m := 22) (es := l3[a].parts.map strC) rfl (set_get hac) rfl rfl (by simp) (by decide)) ?_
                  try simp only [List.set_set, List.length_map, Int.toNat_natCast, Nat.add_zero]
                  refine vc_weak (Weak.node (m := 20) (nd' := ⟨6, clo ((l3.set a (putPart l3[a] (byteAt t 1) (part t))).map heldO)⟩) rfl (congrArg (Vm.Node.mk 6) (by rw [hy, ← clo_set]; rfl))) ?_
                  refine vc_region ?_
                  refine vl_q (q_fieldAddr 0 rfl rfl rfl rfl (by decide) rfl rfl) (dk rfl) ?_
                  refine vl_load rfl rfl rfl rfl rfl rfl rfl (by decide) (dk rfl) ?_
                  refine vl_q (q_move rfl) (dk rfl) ?_
                  refine vl_q (q_move rfl) (dk rfl) ?_
                  refine vl_q (q_add rfl rfl (IntWalk.i64_in _ (by omega))) (dk rfl) ?_
                  refine vl_weak (Weak.lit (d := 148) (y := vv (.int .i64 ((a + 1 : Nat) : Int))) rfl rfl) ?_
                  have hcd := c_Delete (l3.set a (putPart l3[a] (byteAt t 1) (part t))) a (by rw [List.length_set]; exact hal) (by rw [List.length_set]; omega)
                  rw [List.length_set, List.eraseIdx_set_eq] at hcd
                  refine vl_callG [20] (.v (.one (.hdr 23 0 (l3.length - 1)))) hcd rfl rfl ⟨XOk.hdr rfl (by decide) _ _, XOk.val _, XOk.val _, trivial⟩ ⟨⟨_, rfl, NR.clo _ _ _ _⟩, trivial⟩ rfl (by decide) ⟨fix_clo _ _, trivial⟩ trivial rfl (.inl rfl) (dk rfl) ?_
                  refine vl_q (q_fieldAddr 0 rfl rfl rfl rfl (by decide) rfl rfl) (dk rfl) ?_
                  refine vl_store rfl rfl rfl rfl rfl rfl (Nat.le_of_ble_eq_true rfl) trivial ?_
                  refine vl_nil ?_
                  refine hK27 _ ?_
                  refine vc_seq fun K28 hK28 => ?_
                  refine vc_region ?_
                  refine vl_load rfl rfl rfl rfl rfl rfl rfl (by decide) (dk rfl) ?_
                  refine vl_q (q_move rfl) (dk rfl) ?_
                  refine vl_store rfl rfl rfl rfl rfl rfl (Nat.le_of_ble_eq_true rfl) trivial ?_
                  refine vl_q (q_assign rfl) (dk rfl) ?_
                  refine vl_q (q_assign rfl) (dk rfl) ?_
                  refine vl_nil ?_
                  refine hK28 _ ?_
                  refine vc_ret ?_
                  have e : addP l fr t now = (l3.eraseIdx a, catS (putPart l3[a] (byteAt t 1) (part t)).parts, true) := fill_full hok hrp h1 hfl hal hfu
                  refine ret_g [23] rfl (.cons (res_cell rfl rfl rfl rfl rfl rfl rfl (by decide)) (.cons (res_tmp rfl) (.cons (res_tmp rfl) .nil))) (by rw [e]; first | rfl | (simp only [List.length_set]; rfl) | (simp only [List.length_eraseIdx, if_pos hal, hy]; rfl)) rfl (nodupB_ok rfl) ⟨by decide, trivial⟩ ⟨⟨⟨6, clo ((addP l fr t now).1.map heldO)⟩, some_node (by rw [e]), NR.clo _ _ _ _⟩, trivial⟩ trivial (Nat.zero_le _)
              · have hbf : l3[a].hav[byteAt t 1] = false := h118
                refine vl_q (q_not rfl) (dk rfl) ?_
                refine vl_nil ?_
                refine hK22 _ ?_
                refine vc_cond_true rfl ?_
                refine vc_weak (Weak.open1 (nm := 20) (i := a) (j := 3) rfl (set_get hac) rfl) ?_
                simp only [List.set_set, List.length_map, Int.toNat_natCast, Nat.add_zero]
                refine vc_region_any mixed (fun n => Nat.beq n 20) true rfl rfl (fun _ hU29 => hU29) fun w1 S1 L1 Z1 H1 => ?_
                refine va_q 0 rfl (by kernel_rfl) (by kernel_rfl) (by kernel_rfl) (q_move rfl) (dk rfl) ?_
                refine va_q 1 rfl (by kernel_rfl) (by kernel_rfl) (by kernel_rfl) (q_nilCheck rfl rfl) (dk rfl) ?_
                refine va_q 2 rfl (by kernel_rfl) (by kernel_rfl) (by kernel_rfl) (q_fieldAddr 4 rfl rfl rfl rfl (by decide) rfl rfl) (dk rfl) ?_
                refine va_q 3 rfl (by kernel_rfl) (by kernel_rfl) (by kernel_rfl) (q_load rfl rfl rfl (set_get hac) rfl rfl rfl (by decide)) (dk rfl) ?_
                refine va_q 4 rfl (by kernel_rfl) (by kernel_rfl) (by kernel_rfl) (q_move rfl) (dk rfl) ?_
                refine va_q 5 rfl (by kernel_rfl) (by kernel_rfl) (by kernel_rfl) (q_move rfl) (dk rfl) ?_
                refine va_q 6 rfl (by kernel_rfl) (by kernel_rfl) (by kernel_rfl) (q_nilCheck rfl rfl) (dk rfl) ?_
                refine va_q 7 rfl (by kernel_rfl) (by kernel_rfl) (by kernel_rfl) (q_fieldAddr 3 rfl rfl rfl rfl (by decide) rfl rfl) (dk rfl) ?_
                refine va_q 8 rfl (by kernel_rfl) (by kernel_rfl) (by kernel_rfl) (q_load rfl rfl rfl (set_get hac) rfl rfl rfl (by decide)) (dk rfl) ?_
                refine va_q 9 rfl (by kernel_rfl) (by kernel_rfl) (by kernel_rfl) (q_move rfl) (dk rfl) ?_
                refine va_q 10 rfl (by kernel_rfl) (by kernel_rfl) (by kernel_rfl) (q_move rfl) (dk rfl) ?_
                refine va_q 11 rfl (by kernel_rfl) (by kernel_rfl) (by kernel_rfl) (q_indexAddr rfl rfl rfl rfl rfl rfl rfl (by omega) (by omega)) (dk rfl) ?_
                refine va_all [12] (by kernel_rfl) (by simp) ⟨⟨_, rfl, ?_⟩, trivial⟩
                try simp only [List.set_set, List.length_map, Int.toNat_natCast, Nat.add_zero]
                refine vl_store rfl rfl rfl rfl (clo_get hph) rfl (Nat.le_of_ble_eq_true rfl) trivial ?_
                refine vl_nil ?_
                refine va_q 13 rfl (by kernel_rfl) (by kernel_rfl) (by kernel_rfl) (q_indexAddr rfl rfl rfl rfl rfl rfl rfl (by omega) (by omega)) (dk rfl) ?_
                refine va_all [14] (by kernel_rfl) (by simp) ⟨⟨_, rfl, ?_⟩, trivial⟩
                try simp only [List.set_set, List.length_map, Int.toNat_natCast, Nat.add_zero]
                refine vl_store rfl rfl rfl rfl (clo_get hpp) rfl (Nat.le_of_ble_eq_true rfl) trivial ?_
                refine vl_nil ?_
                refine va_done (by kernel_rfl) ?_
                refine hK21 _ ?_
                refine vc_seq fun K30 hK30 => ?_
                refine vc_seq fun K31 hK31 => ?_
                have hy := put_f (s := part t) hph hbf
                refine vc_weak (Weak.node (m := 21) (nd' := ⟨1, clo ((l3[a].hav.set (byteAt t 1) true).map boolC)⟩) rfl (congrArg (Vm.Node.mk 1) (clo_set (f := boolC)))) ?_
                refine vc_weak (Weak.node (m := 22) (nd' := ⟨1, clo ((l3[a].parts.set (byteAt t 1) (part t)).map strC)⟩) rfl (congrArg (Vm.Node.mk 1) (clo_set (f := strC)))) ?_
                refine vc_region ?_
                refine vl_q (q_move rfl) (dk rfl) ?_
                refine vl_q (q_nilCheck rfl rfl) (dk rfl) ?_
                refine vl_q (q_fieldAddr 4 rfl rfl rfl rfl (by decide) rfl rfl) (dk rfl) ?_
                refine vl_load rfl rfl rfl (set_get hac) rfl rfl rfl (by decide) (dk rfl) ?_
                refine vl_callP (c_Contains_bool (l3[a].hav.set (byteAt t 1) true) false) rfl rfl ⟨XOk.snapH rfl (by simp) (by simp) (map_wid fun _ => rfl) (boolsC_shr _), XOk.val _, trivial⟩ rfl (.inl rfl) (dk rfl) ?_
                refine vl_bool 137 rfl (fun h137 => ?_) (fun h137 => ?_)
                · have hnf : (putPart l3[a] (byteAt t 1) (part t)).hav.all id = false := by rw [hy]; exact mem_all h137
                  refine vl_nil ?_
                  refine hK31 _ ?_
                  refine vc_cond_true rfl ?_
                  refine vc_seq fun K32 hK32 => ?_
                  refine vc_weak (Weak.close1 (nm := 20) (i := a) (j := 4) (m := 21) (es := (l3[a].hav.set (byteAt t 1) true).map boolC) rfl (set_get hac) rfl rfl (by simp) (by decide)) ?_
                  try simp only [List.set_set, List.length_map, Int.toNat_natCast, Nat.add_zero]
                  refine vc_weak (Weak.close1 (nm := 20) (i := a) (j := 3) (m := 22) (es := (l3[a].parts.set (byteAt t 1) (part t)).map strC) rfl (set_get hac) rfl rfl (by simp) (by decide)) ?_
                  try simp only [List.set_set, List.length_map, Int.toNat_natCast, Nat.add_zero]
                  refine vc_weak (Weak.node (m := 20) (nd' := ⟨6, clo ((l3.set a (putPart l3[a] (byteAt t 1) (part t))).map heldO)⟩) rfl (congrArg (Vm.Node.mk 6) (by rw [hy, ← clo_set]; rfl))) ?_
                  refine vc_region ?_
                  refine vl_load rfl rfl rfl rfl rfl rfl rfl (by decide) (dk rfl) ?_
                  refine vl_store rfl rfl rfl rfl rfl rfl (Nat.le_of_ble_eq_true rfl) trivial ?_
                  refine vl_q (q_assign rfl) (dk rfl) ?_
                  refine vl_q (q_assign rfl) (dk rfl) ?_
                  refine vl_nil ?_
                  refine hK32 _ ?_
                  refine vc_ret ?_
                  have e : addP l fr t now = (l3.set a (putPart l3[a] (byteAt t 1) (part t)), ⟨#[]⟩, false) := fill_out hok h1 hfl hal hnf
                  refine ret_g [20] rfl (.cons (res_cell rfl rfl rfl rfl rfl rfl rfl (by decide)) (.cons (res_tmp rfl) (.cons (res_tmp rfl) .nil))) (by rw [e]; first | rfl | (simp only [List.length_set]; rfl) | (simp only [List.length_eraseIdx, if_pos hal, hy]; rfl)) rfl (nodupB_ok rfl) ⟨by decide, trivial⟩ ⟨⟨⟨6, clo ((addP l fr t now).1.map heldO)⟩, some_node (by rw [e]), NR.clo _ _ _ _⟩, trivial⟩ trivial (Nat.zero_le _)
                · have hfu : (putPart l3[a] (byteAt t 1) (part t)).hav.all id = true := by rw [hy]; exact nmem_all h137
                  refine vl_nil ?_
                  refine hK31 _ ?_
                  refine vc_cond_false rfl ?_
                  refine vc_skip ?_
                  refine hK30 _ ?_
                  refine vc_seq fun K33 hK33 => ?_
                  have hsz := fill_sz hsg hfl hal hrp (by omega)
                  rw [hy] at hsz
                  try simp only at hsz
                  refine vc_region ?_
                  refine vl_q (q_move rfl) (dk rfl) ?_
                  refine vl_q (q_nilCheck rfl rfl) (dk rfl) ?_
                  refine vl_q (q_fieldAddr 3 rfl rfl rfl rfl (by decide) rfl rfl) (dk rfl) ?_
                  refine vl_load rfl rfl rfl (set_get hac) rfl rfl rfl (by decide) (dk rfl) ?_
                  refine vl_callP (c_Join (l3[a].parts.set (byteAt t 1) (part t)) (by first | omega | (rw [List.length_set]; omega)) (by omega)) rfl rfl ⟨XOk.snapH rfl (by simp) (by simp) (map_wid fun _ => rfl) (strsC_shr _), XOk.val _, trivial⟩ rfl (.inl rfl) (dk rfl) ?_
                  refine vl_q (q_assign rfl) (dk rfl) ?_
                  refine vl_nil ?_
                  refine hK33 _ ?_
                  refine vc_seq fun K34 hK34 => ?_
                  refine vc_weak (Weak.close1 (nm := 20) (i := a) (j := 4) (m := 21) (es := (l3[a].hav.set (byteAt t 1) true).map boolC) rfl (set_get hac) rfl rfl (by simp) (by decide)) ?_
                  try simp only [List.set_set, List.length_map, Int.toNat_natCast, Nat.add_zero]
                  refine vc_weak (Weak.close1 (nm := 20) (i := a) (j := 3) (m := 22) (es := (l3[a].parts.set (byteAt t 1) (part t)).map strC) rfl (set_get hac) rfl rfl (by simp) (by decide)) ?_
                  try simp only [List.set_set, List.length_map, Int.toNat_natCast, Nat.add_zero]
                  refine vc_weak (Weak.node (m := 20) (nd' := ⟨6, clo ((l3.set a (putPart l3[a] (byteAt t 1) (part t))).map heldO)⟩) rfl (congrArg (Vm.Node.mk 6) (by rw [hy, ← clo_set]; rfl))) ?_
                  refine vc_region ?_
                  refine vl_q (q_fieldAddr 0 rfl rfl rfl rfl (by decide) rfl rfl) (dk rfl) ?_
                  refine vl_load rfl rfl rfl rfl rfl rfl rfl (by decide) (dk rfl) ?_
                  refine vl_q (q_move rfl) (dk rfl) ?_
                  refine vl_q (q_move rfl) (dk rfl) ?_
                  refine vl_q (q_add rfl rfl (IntWalk.i64_in _ (by omega))) (dk rfl) ?_
                  refine vl_weak (Weak.lit (d := 148) (y := vv (.int .i64 ((a + 1 : Nat) : Int))) rfl rfl) ?_
                  have hcd := c_Delete (l3.set a (putPart l3[a] (byteAt t 1) (part t))) a (by rw [List.length_set]; exact hal) (by rw [List.length_set]; omega)
                  rw [List.length_set, List.eraseIdx_set_eq] at hcd
                  refine vl_callG [20] (.v (.one (.hdr 23 0 (l3.length - 1)))) hcd rfl rfl ⟨XOk.hdr rfl (by decide) _ _, XOk.val _, XOk.val _, trivial⟩ ⟨⟨_, rfl, NR.clo _ _ _ _⟩, trivial⟩ rfl (by decide) ⟨fix_clo _ _, trivial⟩ trivial rfl (.inl rfl) (dk rfl) ?_
                  refine vl_q (q_fieldAddr 0 rfl rfl rfl rfl (by decide) rfl rfl) (dk rfl) ?_
                  refine vl_store rfl rfl rfl rfl rfl rfl (Nat.le_of_ble_eq_true rfl) trivial ?_
                  refine vl_nil ?_
                  refine hK34 _ ?_
                  refine vc_seq fun K35 hK35 => ?_
                  refine vc_region ?_
                  refine vl_load rfl rfl rfl rfl rfl rfl rfl (by decide) (dk rfl) ?_
                  refine vl_q (q_move rfl) (dk rfl) ?_
                  refine vl_store rfl rfl rfl rfl rfl rfl (Nat.le_of_ble_eq_true rfl) trivial ?_
                  refine vl_q (q_assign rfl) (dk rfl) ?_
                  refine vl_q (q_assign rfl) (dk rfl) ?_
                  refine vl_nil ?_
                  refine hK35 _ ?_
                  refine vc_ret ?_
                  have e : addP l fr t now = (l3.eraseIdx a, catS (putPart l3[a] (byteAt t 1) (part t)).parts, true) := fill_full hok hrp h1 hfl hal hfu
                  refine ret_g [23] rfl (.cons (res_cell rfl rfl rfl rfl rfl rfl rfl (by decide)) (.cons (res_tmp rfl) (.cons (res_tmp rfl) .nil))) (by rw [e]; first | rfl | (simp only [List.length_set]; rfl) | (simp only [List.length_eraseIdx, if_pos hal, hy]; rfl)) rfl (nodupB_ok rfl) ⟨by decide, trivial⟩ ⟨⟨⟨6, clo ((addP l fr t now).1.map heldO)⟩, some_node (by rw [e]), NR.clo _ _ _ _⟩, trivial⟩ trivial (Nat.zero_le _)
          · refine vl_guard_on rfl rfl rfl ?_
            refine vl_q (q_not rfl) (dk rfl) ?_
            refine vl_q (q_pick_false rfl rfl) (dk rfl) ?_
            refine vl_nil ?_
            refine hK5 _ ?_
            refine vc_cond_true rfl ?_
            refine vc_seq fun K36 hK36 => ?_
            refine vc_region ?_
            refine vl_load rfl rfl rfl rfl rfl rfl rfl (by decide) (dk rfl) ?_
            refine vl_store rfl rfl rfl rfl rfl rfl (Nat.le_of_ble_eq_true rfl) trivial ?_
            refine vl_q (q_assign rfl) (dk rfl) ?_
            refine vl_q (q_assign rfl) (dk rfl) ?_
            refine vl_nil ?_
            refine hK36 _ ?_
            refine vc_ret ?_
            have e : addP l fr t now = (l, ⟨#[]⟩, false) := addP_bad (addOk_f (by first | exact .inl ‹_› | exact .inr (.inl ‹_›) | exact .inr (.inr (.inl ‹_›)) | exact .inr (.inr (.inr (.inl (by omega)))) | exact .inr (.inr (.inr (.inr ‹_›)))))
            refine ret_g [18] rfl (.cons (res_cell rfl rfl rfl rfl rfl rfl rfl (by decide)) (.cons (res_tmp rfl) (.cons (res_tmp rfl) .nil))) (by rw [e]; first | rfl | (simp only [List.length_set]; rfl) | (simp only [List.length_eraseIdx, if_pos hal, hy]; rfl)) rfl (nodupB_ok rfl) ⟨by decide, trivial⟩ ⟨⟨⟨6, clo ((addP l fr t now).1.map heldO)⟩, some_node (by rw [e]), NR.clo _ _ _ _⟩, trivial⟩ trivial (Nat.zero_le _)
      · refine vl_guard_on rfl rfl rfl ?_
        refine vl_q (q_not rfl) (dk rfl) ?_
        refine vl_q (q_pick_false rfl rfl) (dk rfl) ?_
        refine vl_q (q_move rfl) (dk rfl) ?_
        refine vl_goff rfl rfl rfl (by decide) (dk rfl) ?_
        refine vl_goff rfl rfl rfl (by decide) (dk rfl) ?_
        refine vl_q (q_pick_true rfl rfl) (dk rfl) ?_
        refine vl_q (q_move rfl) (dk rfl) ?_
        refine vl_goff rfl rfl rfl (by decide) (dk rfl) ?_
        refine vl_goff rfl rfl rfl (by decide) (dk rfl) ?_
        refine vl_goff rfl rfl rfl (by decide) (dk rfl) ?_
        refine vl_q (q_pick_true rfl rfl) (dk rfl) ?_
        refine vl_q (q_move rfl) (dk rfl) ?_
        refine vl_goff rfl rfl rfl (by decide) (dk rfl) ?_
        refine vl_goff rfl rfl rfl (by decide) (dk rfl) ?_
        refine vl_goff rfl rfl rfl (by decide) (dk rfl) ?_
        refine vl_q (q_pick_true rfl rfl) (dk rfl) ?_
        refine vl_nil ?_
        refine hK5 _ ?_
        refine vc_cond_true rfl ?_
        refine vc_seq fun K37 hK37 => ?_
        refine vc_region ?_
        refine vl_load rfl rfl rfl rfl rfl rfl rfl (by decide) (dk rfl) ?_
        refine vl_store rfl rfl rfl rfl rfl rfl (Nat.le_of_ble_eq_true rfl) trivial ?_
        refine vl_q (q_assign rfl) (dk rfl) ?_
        refine vl_q (q_assign rfl) (dk rfl) ?_
        refine vl_nil ?_
        refine hK37 _ ?_
        refine vc_ret ?_
        have e : addP l fr t now = (l, ⟨#[]⟩, false) := addP_bad (addOk_f (by first | exact .inl ‹_› | exact .inr (.inl ‹_›) | exact .inr (.inr (.inl ‹_›)) | exact .inr (.inr (.inr (.inl (by omega)))) | exact .inr (.inr (.inr (.inr ‹_›)))))
        refine ret_g [18] rfl (.cons (res_cell rfl rfl rfl rfl rfl rfl rfl (by decide)) (.cons (res_tmp rfl) (.cons (res_tmp rfl) .nil))) (by rw [e]; first | rfl | (simp only [List.length_set]; rfl) | (simp only [List.length_eraseIdx, if_pos hal, hy]; rfl)) rfl (nodupB_ok rfl) ⟨by decide, trivial⟩ ⟨⟨⟨6, clo ((addP l fr t now).1.map heldO)⟩, some_node (by rw [e]), NR.clo _ _ _ _⟩, trivial⟩ trivial (Nat.zero_le _)
    · refine vl_q (q_not rfl) (dk rfl) ?_
      refine vl_q (q_move rfl) (dk rfl) ?_
      refine vl_goff rfl rfl rfl (by decide) (dk rfl) ?_
      refine vl_goff rfl rfl rfl (by decide) (dk rfl) ?_
      refine vl_goff rfl rfl rfl (by decide) (dk rfl) ?_
      refine vl_q (q_pick_true rfl rfl) (dk rfl) ?_
      refine vl_q (q_move rfl) (dk rfl) ?_
      refine vl_goff rfl rfl rfl (by decide) (dk rfl) ?_
      refine vl_goff rfl rfl rfl (by decide) (dk rfl) ?_
      refine vl_q (q_pick_true rfl rfl) (dk rfl) ?_
      refine vl_q (q_move rfl) (dk rfl) ?_
      refine vl_goff rfl rfl rfl (by decide) (dk rfl) ?_
      refine vl_goff rfl rfl rfl (by decide) (dk rfl) ?_
      refine vl_goff rfl rfl rfl (by decide) (dk rfl) ?_
      refine vl_q (q_pick_true rfl rfl) (dk rfl) ?_
      refine vl_q (q_move rfl) (dk rfl) ?_
      refine vl_goff rfl rfl rfl (by decide) (dk rfl) ?_
      refine vl_goff rfl rfl rfl (by decide) (dk rfl) ?_
      refine vl_goff rfl rfl rfl (by decide) (dk rfl) ?_
      refine vl_q (q_pick_true rfl rfl) (dk rfl) ?_
      refine vl_nil ?_
      refine hK5 _ ?_
      refine vc_cond_true rfl ?_
      refine vc_seq fun K38 hK38 => ?_
      refine vc_region ?_
      refine vl_load rfl rfl rfl rfl rfl rfl rfl (by decide) (dk rfl) ?_
      refine vl_store rfl rfl rfl rfl rfl rfl (Nat.le_of_ble_eq_true rfl) trivial ?_
      refine vl_q (q_assign rfl) (dk rfl) ?_
      refine vl_q (q_assign rfl) (dk rfl) ?_
      refine vl_nil ?_
      refine hK38 _ ?_
      refine vc_ret ?_
      have e : addP l fr t now = (l, ⟨#[]⟩, false) := addP_bad (addOk_f (by first | exact .inl ‹_› | exact .inr (.inl ‹_›) | exact .inr (.inr (.inl ‹_›)) | exact .inr (.inr (.inr (.inl (by omega)))) | exact .inr (.inr (.inr (.inr ‹_›)))))
      refine ret_g [18] rfl (.cons (res_cell rfl rfl rfl rfl rfl rfl rfl (by decide)) (.cons (res_tmp rfl) (.cons (res_tmp rfl) .nil))) (by rw [e]; first | rfl | (simp only [List.length_set]; rfl) | (simp only [List.length_eraseIdx, if_pos hal, hy]; rfl)) rfl (nodupB_ok rfl) ⟨by decide, trivial⟩ ⟨⟨⟨6, clo ((addP l fr t now).1.map heldO)⟩, some_node (by rw [e]), NR.clo _ _ _ _⟩, trivial⟩ trivial (Nat.zero_le _)
  · refine vl_callP (c_ReadPart_f t hrp) rfl rfl ⟨XOk.val _, trivial⟩ rfl (.inl rfl) (dk rfl) ?_
    refine vl_q (q_move rfl) (dk rfl) ?_
    refine vl_q (q_extract rfl rfl) (dk rfl) ?_
    refine vl_q (q_extract rfl rfl) (dk rfl) ?_
    refine vl_q (q_extract rfl rfl) (dk rfl) ?_
    refine vl_q (q_extract rfl rfl) (dk rfl) ?_
    refine vl_q (q_extract rfl rfl) (dk rfl) ?_
    refine vl_q (q_assign rfl) (dk rfl) ?_
    refine vl_q (q_assign rfl) (dk rfl) ?_
    refine vl_q (q_assign rfl) (dk rfl) ?_
    refine vl_q (q_assign rfl) (dk rfl) ?_
    refine vl_q (q_assign rfl) (dk rfl) ?_
    refine vl_nil ?_
    refine hK3 _ ?_
    refine vc_seq fun K39 hK39 => ?_
    refine vc_seq fun K40 hK40 => ?_
    refine vc_region ?_
    refine vl_load rfl rfl rfl rfl rfl rfl rfl (by decide) (dk rfl) ?_
    refine vl_callP (c_impl_ShelfOk l) rfl rfl ⟨VOk.agg ⟨XOk.shc _ _, trivial⟩, trivial⟩ rfl (.inl rfl) (dk rfl) ?_
    refine vl_bool 31 rfl (fun h31 => ?_) (fun h31 => ?_)
    · have hsg : ShelfGood l := of_decide_eq_true h31
      have hlen3 := hsg.len
      refine vl_q (q_not rfl) (dk rfl) ?_
      refine vl_q (q_move rfl) (dk rfl) ?_
      refine vl_guard_on rfl rfl rfl ?_
      refine vl_q (q_move rfl) (dk rfl) ?_
      refine vl_guard_on rfl rfl rfl ?_
      refine vl_callP (c_impl_isId _) rfl rfl ⟨XOk.val _, trivial⟩ rfl (.inl rfl) (dk rfl) ?_
      refine vl_bool 35 rfl (fun h35 => ?_) (fun h35 => ?_)
      · refine vl_guard_on rfl rfl rfl ?_
        refine vl_q (q_not rfl) (dk rfl) ?_
        refine vl_q (q_pick_false rfl rfl) (dk rfl) ?_
        refine vl_q (q_move rfl) (dk rfl) ?_
        refine vl_guard_on rfl rfl rfl ?_
        refine vl_q (q_move rfl) (dk rfl) ?_
        refine vl_guard_on rfl rfl rfl ?_
        refine vl_q (q_not rfl) (dk rfl) ?_
        refine vl_q (q_pick_false rfl rfl) (dk rfl) ?_
        refine vl_q (q_move rfl) (dk rfl) ?_
        refine vl_goff rfl rfl rfl (by decide) (dk rfl) ?_
        refine vl_goff rfl rfl rfl (by decide) (dk rfl) ?_
        refine vl_goff rfl rfl rfl (by decide) (dk rfl) ?_
        refine vl_q (q_pick_true rfl rfl) (dk rfl) ?_
        refine vl_q (q_move rfl) (dk rfl) ?_
        refine vl_goff rfl rfl rfl (by decide) (dk rfl) ?_
        refine vl_goff rfl rfl rfl (by decide) (dk rfl) ?_
        refine vl_goff rfl rfl rfl (by decide) (dk rfl) ?_
        refine vl_q (q_pick_true rfl rfl) (dk rfl) ?_
        refine vl_nil ?_
        refine hK40 _ ?_
        refine vc_cond_true rfl ?_
        refine vc_seq fun K41 hK41 => ?_
        refine vc_region ?_
        refine vl_load rfl rfl rfl rfl rfl rfl rfl (by decide) (dk rfl) ?_
        refine vl_store rfl rfl rfl rfl rfl rfl (Nat.le_of_ble_eq_true rfl) trivial ?_
        refine vl_q (q_assign rfl) (dk rfl) ?_
        refine vl_q (q_assign rfl) (dk rfl) ?_
        refine vl_nil ?_
        refine hK41 _ ?_
        refine vc_ret ?_
        have e : addP l fr t now = (l, ⟨#[]⟩, false) := addP_bad (addOk_f (by first | exact .inl ‹_› | exact .inr (.inl ‹_›) | exact .inr (.inr (.inl ‹_›)) | exact .inr (.inr (.inr (.inl (by omega)))) | exact .inr (.inr (.inr (.inr ‹_›)))))
        refine ret_g [18] rfl (.cons (res_cell rfl rfl rfl rfl rfl rfl rfl (by decide)) (.cons (res_tmp rfl) (.cons (res_tmp rfl) .nil))) (by rw [e]; first | rfl | (simp only [List.length_set]; rfl) | (simp only [List.length_eraseIdx, if_pos hal, hy]; rfl)) rfl (nodupB_ok rfl) ⟨by decide, trivial⟩ ⟨⟨⟨6, clo ((addP l fr t now).1.map heldO)⟩, some_node (by rw [e]), NR.clo _ _ _ _⟩, trivial⟩ trivial (Nat.zero_le _)
      · refine vl_guard_on rfl rfl rfl ?_
        refine vl_q (q_not rfl) (dk rfl) ?_
        refine vl_q (q_pick_false rfl rfl) (dk rfl) ?_
        refine vl_q (q_move rfl) (dk rfl) ?_
        refine vl_goff rfl rfl rfl (by decide) (dk rfl) ?_
        refine vl_goff rfl rfl rfl (by decide) (dk rfl) ?_
        refine vl_q (q_pick_true rfl rfl) (dk rfl) ?_
        refine vl_q (q_move rfl) (dk rfl) ?_
        refine vl_goff rfl rfl rfl (by decide) (dk rfl) ?_
        refine vl_goff rfl rfl rfl (by decide) (dk rfl) ?_
        refine vl_goff rfl rfl rfl (by decide) (dk rfl) ?_
        refine vl_q (q_pick_true rfl rfl) (dk rfl) ?_
        refine vl_q (q_move rfl) (dk rfl) ?_
        refine vl_goff rfl rfl rfl (by decide) (dk rfl) ?_
        refine vl_goff rfl rfl rfl (by decide) (dk rfl) ?_
        refine vl_goff rfl rfl rfl (by decide) (dk rfl) ?_
        refine vl_q (q_pick_true rfl rfl) (dk rfl) ?_
        refine vl_nil ?_
        refine hK40 _ ?_
        refine vc_cond_true rfl ?_
        refine vc_seq fun K42 hK42 => ?_
        refine vc_region ?_
        refine vl_load rfl rfl rfl rfl rfl rfl rfl (by decide) (dk rfl) ?_
        refine vl_store rfl rfl rfl rfl rfl rfl (Nat.le_of_ble_eq_true rfl) trivial ?_
        refine vl_q (q_assign rfl) (dk rfl) ?_
        refine vl_q (q_assign rfl) (dk rfl) ?_
        refine vl_nil ?_
        refine hK42 _ ?_
        refine vc_ret ?_
        have e : addP l fr t now = (l, ⟨#[]⟩, false) := addP_bad (addOk_f (by first | exact .inl ‹_› | exact .inr (.inl ‹_›) | exact .inr (.inr (.inl ‹_›)) | exact .inr (.inr (.inr (.inl (by omega)))) | exact .inr (.inr (.inr (.inr ‹_›)))))
        refine ret_g [18] rfl (.cons (res_cell rfl rfl rfl rfl rfl rfl rfl (by decide)) (.cons (res_tmp rfl) (.cons (res_tmp rfl) .nil))) (by rw [e]; first | rfl | (simp only [List.length_set]; rfl) | (simp only [List.length_eraseIdx, if_pos hal, hy]; rfl)) rfl (nodupB_ok rfl) ⟨by decide, trivial⟩ ⟨⟨⟨6, clo ((addP l fr t now).1.map heldO)⟩, some_node (by rw [e]), NR.clo _ _ _ _⟩, trivial⟩ trivial (Nat.zero_le _)
    · refine vl_q (q_not rfl) (dk rfl) ?_
      refine vl_q (q_move rfl) (dk rfl) ?_
      refine vl_goff rfl rfl rfl (by decide) (dk rfl) ?_
      refine vl_goff rfl rfl rfl (by decide) (dk rfl) ?_
      refine vl_goff rfl rfl rfl (by decide) (dk rfl) ?_
      refine vl_q (q_pick_true rfl rfl) (dk rfl) ?_
      refine vl_q (q_move rfl) (dk rfl) ?_
      refine vl_goff rfl rfl rfl (by decide) (dk rfl) ?_
      refine vl_goff rfl rfl rfl (by decide) (dk rfl) ?_
      refine vl_q (q_pick_true rfl rfl) (dk rfl) ?_
      refine vl_q (q_move rfl) (dk rfl) ?_
      refine vl_goff rfl rfl rfl (by decide) (dk rfl) ?_
      refine vl_goff rfl rfl rfl (by decide) (dk rfl) ?_
      refine vl_goff rfl rfl rfl (by decide) (dk rfl) ?_
      refine vl_q (q_pick_true rfl rfl) (dk rfl) ?_
      refine vl_q (q_move rfl) (dk rfl) ?_
      refine vl_goff rfl rfl rfl (by decide) (dk rfl) ?_
      refine vl_goff rfl rfl rfl (by decide) (dk rfl) ?_
      refine vl_goff rfl rfl rfl (by decide) (dk rfl) ?_
      refine vl_q (q_pick_true rfl rfl) (dk rfl) ?_
      refine vl_nil ?_
      refine hK40 _ ?_
      refine vc_cond_true rfl ?_
      refine vc_seq fun K43 hK43 => ?_
      refine vc_region ?_
      refine vl_load rfl rfl rfl rfl rfl rfl rfl (by decide) (dk rfl) ?_
      refine vl_store rfl rfl rfl rfl rfl rfl (Nat.le_of_ble_eq_true rfl) trivial ?_
      refine vl_q (q_assign rfl) (dk rfl) ?_
      refine vl_q (q_assign rfl) (dk rfl) ?_
      refine vl_nil ?_
      refine hK43 _ ?_
      refine vc_ret ?_
      have e : addP l fr t now = (l, ⟨#[]⟩, false) := addP_bad (addOk_f (by first | exact .inl ‹_› | exact .inr (.inl ‹_›) | exact .inr (.inr (.inl ‹_›)) | exact .inr (.inr (.inr (.inl (by omega)))) | exact .inr (.inr (.inr (.inr ‹_›)))))
      refine ret_g [18] rfl (.cons (res_cell rfl rfl rfl rfl rfl rfl rfl (by decide)) (.cons (res_tmp rfl) (.cons (res_tmp rfl) .nil))) (by rw [e]; first | rfl | (simp only [List.length_set]; rfl) | (simp only [List.length_eraseIdx, if_pos hal, hy]; rfl)) rfl (nodupB_ok rfl) ⟨by decide, trivial⟩ ⟨⟨⟨6, clo ((addP l fr t now).1.map heldO)⟩, some_node (by rw [e]), NR.clo _ _ _ _⟩, trivial⟩ trivial (Nat.zero_le _)
end Go.Vm.S
namespace Go.Vm.S
open Go Go.Vm
theorem dlText_le (d : Dr) : (dlText d).size ≤ 208 := dLong_size d
theorem dlId_in (d : Dr) : 0 ≤ dlId d ∧ dlId d ≤ 255 := by
  have := dBelow_lt (dLong d).2 (n := 256) (by omega); unfold dlId; omega
theorem dlSz_in (d : Dr) : ∃ z : Nat, dlSz d = z ∧ 20 ≤ z ∧ z ≤ 59 := by
  have := dBelow_lt (dBelow (dLong d).2 256).2 (n := 40) (by omega)
  exact ⟨(dlSz d).toNat, by unfold dlSz; omega, by unfold dlSz; omega, by unfold dlSz; omega⟩
theorem places_first (d : Dr) : ∃ (off : Nat) (r : List Int), (blS d 10000 12).1 = (off : Int) :: r ∧ off < 10000 := by
  have hl := blS_len d 10000 12
  have hin := blS_in d (m := 10000) (by omega) 12
  match hb : (blS d 10000 12).1 with
  | [] => rw [hb] at hl; cases hl
  | x :: r =>
    rw [hb] at hin
    have := hin x (by simp)
    exact ⟨x.toNat, r, by rw [Int.toNat_of_nonneg this.1], by omega⟩
theorem first_row {l : List Int} {x : Int} {r : List Int} (h : l = x :: r) : (clo (l.map intC))[0]? = some ((intC x).map X.c) := by rw [h]; rfl
theorem pcs_at {id : Int} {w : ByteArray} {sz n i : Nat} (h : i < n) : (clo ((pcs id w sz n).map strC))[i]? = some ((strC (piece id w sz (nP w sz) i)).map X.c) := by
  rw [clo_get (by rw [pcs_len]; exact h), pcs_get]
theorem rem_nat {a b n : Nat} : (((a : Int) + (b : Int))).tmod (n : Int) = (((a + b) % n : Nat) : Int) := by
  rw [← Int.natCast_add, Int.ofNat_tmod]
theorem shAt_zero (id : Int) (w : ByteArray) (sz n off : Nat) : shAt id w sz n off 0 = [] := by simp [shAt]
theorem shAt_end (id : Int) (w : ByteArray) (sz n off : Nat) : shAt id w sz n off n = [] := by simp [shAt]
theorem good_sz {l : List Held} (g : ShelfGood l) : szHelds l ≤ 10000 := by
  have h1 := sz_small (sz_good g); have h2 := g.len; omega
theorem c_sameTexts_self (l : List ByteArray) : Ctr Pg ty 11 [shv 1 (l.map strC), shv 1 (l.map strC)] [] (Gives (vv (.bool true)) [] []) := by
  have h := c_laws_sameTexts l l
  rwa [decide_eq_true rfl] at h
theorem c_ShelfOk_t (l : List Held) (g : ShelfGood l) : Ctr Pg ty 15 [.agg ((shelfC l).map X.c)] [] (Gives (vv (.bool true)) [] []) := by
  have h := c_impl_ShelfOk l
  rwa [show shelfB l = true from decide_eq_true g] at h
section
variable {id : Int} {w : ByteArray} {sz off i : Nat}
theorem c_AddStep_f (hid : 0 ≤ id ∧ id ≤ 255) (hs : 20 ≤ sz ∧ sz ≤ 120) (hw : w.size ≤ 220) (hi : i + 1 < nP w sz) :
    Ctr Pg ty 14 [.agg ((shelfC (shAt id w sz (nP w sz) off i)).map X.c), iv 4, sv (piece id w sz (nP w sz) ((i + off) % nP w sz)), iv 5] []
      (Gives (.tup [.agg [.hdr 16 0 (shAt id w sz (nP w sz) off (i + 1)).length], sv ⟨#[]⟩, bv false]) [⟨6, clo ((shAt id w sz (nP w sz) off (i + 1)).map heldO)⟩] []) := by
  have g := step_good (off := off) hid hs hw i (by omega)
  have h := c_impl_AddPart _ 4 (piece id w sz (nP w sz) ((i + off) % nP w sz)) 5 (show szHelds (shAt id w sz (nP w sz) off i) ≤ 4194304 by have := good_sz g; omega)
  rwa [step_law hid hs hw (by omega) g, if_neg (by omega), decide_eq_false (by omega)] at h
theorem c_AddStep_t (hid : 0 ≤ id ∧ id ≤ 255) (hs : 20 ≤ sz ∧ sz ≤ 120) (hw : w.size ≤ 220) (hi : i + 1 = nP w sz) :
    Ctr Pg ty 14 [.agg ((shelfC (shAt id w sz (nP w sz) off i)).map X.c), iv 4, sv (piece id w sz (nP w sz) ((i + off) % nP w sz)), iv 5] []
      (Gives (.tup [.agg [.hdr 16 0 (shAt id w sz (nP w sz) off (i + 1)).length], sv w, bv true]) [⟨6, clo ((shAt id w sz (nP w sz) off (i + 1)).map heldO)⟩] []) := by
  have g := step_good (off := off) hid hs hw i (by omega)
  have h := c_impl_AddPart _ 4 (piece id w sz (nP w sz) ((i + off) % nP w sz)) 5 (show szHelds (shAt id w sz (nP w sz) off i) ≤ 4194304 by have := good_sz g; omega)
  rwa [step_law hid hs hw (by omega) g, if_pos hi, decide_eq_true hi] at h
end
end Go.Vm.S
namespace Go.Vm.S
open Go Go.Vm
set_option maxRecDepth 100000
set_option linter.unusedVariables false
set_option maxHeartbeats 4000000
theorem at9 : FnAt Pg 9 Go.Proofs.Try.f9 := ⟨by kernel_rfl, rfl, by decide⟩
theorem c_impl_Split (id : Int) (w : ByteArray) (sz : Nat) (hid : 0 ≤ id ∧ id ≤ 255) (hs : 20 ≤ sz ∧ sz ≤ 120) (hw : w.size ≤ 220) :
    Ctr Pg ty 9 [iv id, sv w, iv sz] [] (Gives (.tup [.one (.hdr 16 0 (nP w sz)), bv true]) [⟨1, clo ((pcs id w sz (nP w sz)).map strC)⟩] []) := by
  have hn := nP_le hw hs.1
  have hn' := nP_le' hw hs.1
  have hq := nP_cases w sz
  have hq0 : (0 : Int) ≤ (((w.size + sz - 1) / sz : Nat) : Int) := Int.natCast_nonneg _
  refine ctr at9 rfl (nsK_gives rfl ⟨nsN_map strC_noSh, trivial⟩ trivial) (Nat.le_of_ble_eq_true rfl) fun w0 S0 L0 Z => ?_
  refine vc_seq fun K1 hK1 => ?_
  refine vc_region ?_
  refine vl_q (q_assign rfl) (dk rfl) ?_
  refine vl_q (q_assign rfl) (dk rfl) ?_
  refine vl_nil ?_
  refine hK1 _ ?_
  refine vc_seq fun K2 hK2 => ?_
  refine vc_seq fun K3 hK3 => ?_
  refine vc_region ?_
  refine vl_q (q_move rfl) (dk rfl) ?_
  refine vl_callP (c_impl_within id 0 255) rfl rfl ⟨XOk.val _, XOk.val _, XOk.val _, trivial⟩ rfl (.inl rfl) (dk rfl) ?_
  refine vl_bool 13 rfl (fun h13 => ?_) (fun h13 => ?_)
  · refine vl_q (q_not rfl) (dk rfl) ?_
    refine vl_q (q_move rfl) (dk rfl) ?_
    refine vl_guard_on rfl rfl rfl ?_
    refine vl_q (q_move rfl) (dk rfl) ?_
    refine vl_guard_on rfl rfl rfl ?_
    refine vl_callP (c_impl_within sz 20 120) rfl rfl ⟨XOk.val _, XOk.val _, XOk.val _, trivial⟩ rfl (.inl rfl) (dk rfl) ?_
    refine vl_bool 17 rfl (fun h17 => ?_) (fun h17 => ?_)
    · refine vl_guard_on rfl rfl rfl ?_
      refine vl_q (q_not rfl) (dk rfl) ?_
      refine vl_q (q_pick_false rfl rfl) (dk rfl) ?_
      refine vl_q (q_move rfl) (dk rfl) ?_
      refine vl_guard_on rfl rfl rfl ?_
      refine vl_q (q_move rfl) (dk rfl) ?_
      refine vl_guard_on rfl rfl rfl ?_
      refine vl_q (q_len_str rfl rfl rfl) (dk rfl) ?_
      refine vl_guard_on rfl rfl rfl ?_
      refine vl_two (x := fun b => vv (.bool b)) _ (q_cmp rfl rfl rfl rfl) (dk rfl) (fun h23 => ?_) (fun h23 => ?_)
      · replace h23 := gtr_of h23
        omega
      · replace h23 := gtr_nof h23
        refine vl_q (q_pick_false rfl rfl) (dk rfl) ?_
        refine vl_nil ?_
        refine hK3 _ ?_
        refine vc_cond_false rfl ?_
        refine vc_skip ?_
        refine hK2 _ ?_
        refine vc_seq fun K4 hK4 => ?_
        refine vc_region ?_
        refine vl_q (q_move rfl) (dk rfl) ?_
        refine vl_q (q_len_str rfl rfl rfl) (dk rfl) ?_
        refine vl_q (q_move rfl) (dk rfl) ?_
        refine vl_q (q_add rfl rfl (IntWalk.i64_in _ (by omega))) (dk rfl) ?_
        refine vl_q (q_sub rfl rfl (IntWalk.i64_in _ (by omega))) (dk rfl) ?_
        refine vl_q (q_move rfl) (dk rfl) ?_
        refine vl_q (q_quo rfl rfl (by first | decide | omega) (quo_nat (by omega) (by omega) (by omega))) (dk rfl) ?_
        refine vl_q (q_maxr rfl rfl (r := (nP w sz : Nat)) (by split <;> omega)) (dk rfl) ?_
        refine vl_q (q_assign rfl) (dk rfl) ?_
        refine vl_nil ?_
        refine hK4 _ ?_
        refine vc_seq fun K5 hK5 => ?_
        refine vc_seq fun K6 hK6 => ?_
        refine vc_region ?_
        refine vl_q (q_move rfl) (dk rfl) ?_
        refine vl_two (x := fun b => vv (.bool b)) _ (q_cmp rfl rfl rfl rfl) (dk rfl) (fun h34 => ?_) (fun h34 => ?_)
        · replace h34 := gtr_of h34
          omega
        · replace h34 := gtr_nof h34
          refine vl_nil ?_
          refine hK6 _ ?_
          refine vc_cond_false rfl ?_
          refine vc_skip ?_
          refine hK5 _ ?_
          refine vc_seq fun K7 hK7 => ?_
          refine vc_region ?_
          refine vl_bslice rfl rfl rfl rfl rfl rfl trivial (by decide) (by decide) (dk rfl) ?_
          refine vl_q (q_assign rfl) (dk rfl) ?_
          refine vl_nil ?_
          refine hK7 _ ?_
          refine vc_seq fun K8 hK8 => ?_
          refine vc_seq fun K9 hK9 => ?_
          refine vc_region ?_
          refine vl_q (q_move rfl) (dk rfl) ?_
          refine vl_q (q_move rfl) (dk rfl) ?_
          refine vl_nil ?_
          refine hK9 _ ?_
          refine vc_block ?_
          refine vc_loop (fun mz st => ∃ i : Nat, (i ≤ nP w sz) ∧ mz = nP w sz - i ∧ st = mkSt [(0, .v (iv id)), (1, .v (sv w)), (2, .v (iv sz)), (8, .v (iv (nP w sz))), (9, .v (.one (.hdr 16 0 i))), (36, .v (iv (nP w sz))), (37, .v (iv i))] [(16, ⟨1, clo ((pcs id w sz i).map strC)⟩)] 17) ⟨_, _, ⟨0, by omega, rfl, rfl⟩, (Weak.cut _ _ _ (Nat.le_of_ble_eq_true rfl) ⟨⟨rfl, rfl⟩, ⟨rfl, rfl⟩, ⟨rfl, rfl⟩, ⟨rfl, rfl⟩, ⟨rfl, rfl⟩, ⟨rfl, rfl⟩, ⟨rfl, rfl⟩, trivial⟩ ⟨⟨Nat.le_of_ble_eq_true rfl, rfl, belN_clo _ _ _⟩, trivial⟩ rfl)⟩ (fun mz st hI => ?_)
          obtain ⟨i, hi, hmz, rfl⟩ := hI
          refine vc_seq fun K10 hK10 => ?_
          refine vc_region ?_
          refine vl_two (x := fun b => vv (.bool b)) _ (q_cmp rfl rfl rfl rfl) (dk rfl) (fun h38 => ?_) (fun h38 => ?_)
          · replace h38 := lss_of h38
            refine vl_nil ?_
            refine hK10 _ ?_
            refine vc_seq fun K11 hK11 => ?_
            refine vc_cond_true rfl ?_
            refine vc_skip ?_
            refine hK11 _ ?_
            refine vc_seq fun K12 hK12 => ?_
            refine vc_block ?_
            refine vc_seq fun K13 hK13 => ?_
            refine vc_region ?_
            refine vl_q (q_move rfl) (dk rfl) ?_
            refine vl_q (q_assign rfl) (dk rfl) ?_
            refine vl_nil ?_
            refine hK13 _ ?_
            refine vc_seq fun K14 hK14 => ?_
            have hi2 : i < nP w sz := by omega
            have hi1 := pc_le hi2 (by omega : 0 < sz)
            have hi3 : (i + 1) * sz = i * sz + sz := by rw [Nat.add_mul, Nat.one_mul]
            have hi4 : (i : Int) * (sz : Int) = ((i * sz : Nat) : Int) := by rw [Int.natCast_mul]
            have hi5 : ((i : Int) + 1) * (sz : Int) = (((i + 1) * sz : Nat) : Int) := by rw [Int.natCast_mul]; rfl
            have hi6 : i * sz ≤ 15 * 120 := Nat.mul_le_mul (by omega) hs.2
            generalize hA : i * sz = A at *
            generalize hB : (i + 1) * sz = B at *
            refine vc_region ?_
            refine vl_q (q_move rfl) (dk rfl) ?_
            refine vl_q (q_move rfl) (dk rfl) ?_
            refine vl_q (q_move rfl) (dk rfl) ?_
            refine vl_q (q_mul rfl rfl ((congrArg IntKind.i64.wrap hi4).trans (IntWalk.i64_in _ (by omega)))) (dk rfl) ?_
            refine vl_q (q_move rfl) (dk rfl) ?_
            refine vl_q (q_add rfl rfl (IntWalk.i64_in _ (by omega))) (dk rfl) ?_
            refine vl_q (q_move rfl) (dk rfl) ?_
            refine vl_q (q_mul rfl rfl ((congrArg IntKind.i64.wrap hi5).trans (IntWalk.i64_in _ (by omega)))) (dk rfl) ?_
            refine vl_q (q_move rfl) (dk rfl) ?_
            refine vl_q (q_len_str rfl rfl rfl) (dk rfl) ?_
            refine vl_q (q_minr rfl rfl (r := (min B w.size : Nat)) (by split <;> omega)) (dk rfl) ?_
            refine vl_q (q_slice_str rfl rfl rfl rfl rfl (by omega) (by omega) (by omega)) (dk rfl) ?_
            refine vl_q (q_assign rfl) (dk rfl) ?_
            refine vl_nil ?_
            refine hK14 _ ?_
            refine vc_region ?_
            refine vl_q (q_move rfl) (dk rfl) ?_
            refine vl_q (q_move rfl) (dk rfl) ?_
            refine vl_callP (c_impl_byteText _ (by omega)) rfl rfl ⟨XOk.val _, trivial⟩ rfl (.inl rfl) (dk rfl) ?_
            refine vl_q (q_move rfl) (dk rfl) ?_
            refine vl_callP (c_impl_byteText _ (by omega)) rfl rfl ⟨XOk.val _, trivial⟩ rfl (.inl rfl) (dk rfl) ?_
            refine vl_q (q_cat rfl rfl (by rw [bstr_size1, bstr_size1]; decide)) (dk rfl) ?_
            refine vl_q (q_move rfl) (dk rfl) ?_
            refine vl_callP (c_impl_byteText _ (by omega)) rfl rfl ⟨XOk.val _, trivial⟩ rfl (.inl rfl) (dk rfl) ?_
            refine vl_q (q_cat rfl rfl (by rw [ByteArray.size_append, bstr_size1, bstr_size1, bstr_size1]; decide)) (dk rfl) ?_
            refine vl_q (q_move rfl) (dk rfl) ?_
            refine vl_q (q_cat rfl rfl (by simp only [ByteArray.size_append, bstr_size1, ByteArray.size_extract]; omega)) (dk rfl) ?_
            refine vl_bslice rfl rfl rfl rfl rfl rfl ⟨rfl, trivial⟩ (by decide) (by decide) (dk rfl) ?_
            refine vl_append rfl rfl rfl rfl (fun _ h => TypeDesc.noConfusion h) rfl rfl rfl (by simp [clo, pcs_len]) (src_row rfl rfl rfl rfl) (by show (_ + 1) * 16 ≤ _; omega) (by show _ + 1 < _; omega) (dk rfl) ?_
            refine vl_q (q_assign rfl) (dk rfl) ?_
            refine vl_nil ?_
            refine hK12 _ ?_
            refine vc_region ?_
            refine vl_q (q_add rfl rfl (IntWalk.i64_in _ (by omega))) (dk rfl) ?_
            refine vl_q (q_move rfl) (dk rfl) ?_
            refine vl_nil ?_
            refine ⟨_, _, ?_, ⟨i + 1, by omega, rfl, rfl⟩, (Weak.to (fun n => bif Nat.beq n 16 then 18 else n) _ _ _ (Nat.le_of_ble_eq_true rfl) (fun n hn => sgm_lo hn (Nat.le_of_ble_eq_true rfl) (rfl)) ⟨⟨rfl, rfl⟩, ⟨rfl, rfl⟩, ⟨rfl, rfl⟩, ⟨rfl, rfl⟩, ⟨rfl, rfl⟩, ⟨rfl, rfl⟩, ⟨rfl, rfl⟩, trivial⟩ ⟨⟨Nat.le_of_ble_eq_true rfl, _, some_node (pcs_next (l := (A : Int).toNat) (h := ((min B w.size : Nat) : Int).toNat) (by omega) (by rw [hB]; omega)), NR.clo _ _ _ _⟩, trivial⟩ (nodupB_ok rfl))⟩
            omega
          · replace h38 := lss_nof h38
            refine vl_nil ?_
            refine hK10 _ ?_
            refine vc_seq fun K15 hK15 => ?_
            refine vc_cond_false rfl ?_
            refine vc_exit ?_
            refine hK8 _ ?_
            refine vc_seq fun K16 hK16 => ?_
            obtain rfl : i = nP w sz := by omega
            refine vc_region ?_
            refine vl_q (q_move rfl) (dk rfl) ?_
            refine vl_q (q_assign rfl) (dk rfl) ?_
            refine vl_q (q_assign rfl) (dk rfl) ?_
            refine vl_nil ?_
            refine hK16 _ ?_
            refine vc_ret ?_
            refine ret_g [16] rfl (.cons (res_tmp rfl) (.cons (res_tmp rfl) .nil)) rfl rfl (nodupB_ok rfl) ⟨by decide, trivial⟩ ⟨⟨_, rfl, NR.clo _ _ _ _⟩, trivial⟩ trivial (Nat.zero_le _)
    · rw [within_t (by omega) (by omega)] at h17; cases h17
  · rw [within_t hid.1 hid.2] at h13; cases h13
end Go.Vm.S
namespace Go.Vm.S
open Go Go.Vm
set_option maxRecDepth 100000
set_option linter.unusedVariables false
set_option maxHeartbeats 4000000
theorem at10 : FnAt Pg 10 Go.Proofs.Try.f10 := ⟨by kernel_rfl, rfl, by decide⟩
theorem c_spec_Split (id : Int) (w : ByteArray) (sz : Nat) (hid : 0 ≤ id ∧ id ≤ 255) (hs : 20 ≤ sz ∧ sz ≤ 120) (hw : w.size ≤ 220) :
    Ctr Pg ty 10 [iv id, sv w, iv sz] [] (Gives (.tup [.one (.hdr 16 0 (nP w sz)), bv true]) [⟨1, clo ((pcs id w sz (nP w sz)).map strC)⟩] []) := by
  have hn := nP_le hw hs.1
  have hn' := nP_le' hw hs.1
  have hq := nP_cases w sz
  have hq0 : (0 : Int) ≤ (((w.size + sz - 1) / sz : Nat) : Int) := Int.natCast_nonneg _
  refine ctr at10 rfl (nsK_gives rfl ⟨nsN_map strC_noSh, trivial⟩ trivial) (Nat.le_of_ble_eq_true rfl) fun w0 S0 L0 Z => ?_
  refine vc_seq fun K1 hK1 => ?_
  refine vc_region ?_
  refine vl_q (q_assign rfl) (dk rfl) ?_
  refine vl_q (q_assign rfl) (dk rfl) ?_
  refine vl_nil ?_
  refine hK1 _ ?_
  refine vc_seq fun K2 hK2 => ?_
  refine vc_seq fun K3 hK3 => ?_
  refine vc_region ?_
  refine vl_q (q_move rfl) (dk rfl) ?_
  refine vl_callP (c_spec_l01In id 0 255) rfl rfl ⟨XOk.val _, XOk.val _, XOk.val _, trivial⟩ rfl (.inl rfl) (dk rfl) ?_
  refine vl_bool 13 rfl (fun h13 => ?_) (fun h13 => ?_)
  · refine vl_q (q_not rfl) (dk rfl) ?_
    refine vl_q (q_move rfl) (dk rfl) ?_
    refine vl_guard_on rfl rfl rfl ?_
    refine vl_q (q_move rfl) (dk rfl) ?_
    refine vl_guard_on rfl rfl rfl ?_
    refine vl_callP (c_spec_l01In sz 20 120) rfl rfl ⟨XOk.val _, XOk.val _, XOk.val _, trivial⟩ rfl (.inl rfl) (dk rfl) ?_
    refine vl_bool 17 rfl (fun h17 => ?_) (fun h17 => ?_)
    · refine vl_guard_on rfl rfl rfl ?_
      refine vl_q (q_not rfl) (dk rfl) ?_
      refine vl_q (q_pick_false rfl rfl) (dk rfl) ?_
      refine vl_q (q_move rfl) (dk rfl) ?_
      refine vl_guard_on rfl rfl rfl ?_
      refine vl_q (q_move rfl) (dk rfl) ?_
      refine vl_guard_on rfl rfl rfl ?_
      refine vl_q (q_len_str rfl rfl rfl) (dk rfl) ?_
      refine vl_guard_on rfl rfl rfl ?_
      refine vl_two (x := fun b => vv (.bool b)) _ (q_cmp rfl rfl rfl rfl) (dk rfl) (fun h23 => ?_) (fun h23 => ?_)
      · replace h23 := gtr_of h23
        omega
      · replace h23 := gtr_nof h23
        refine vl_q (q_pick_false rfl rfl) (dk rfl) ?_
        refine vl_nil ?_
        refine hK3 _ ?_
        refine vc_cond_false rfl ?_
        refine vc_skip ?_
        refine hK2 _ ?_
        refine vc_seq fun K4 hK4 => ?_
        refine vc_region ?_
        refine vl_q (q_move rfl) (dk rfl) ?_
        refine vl_q (q_len_str rfl rfl rfl) (dk rfl) ?_
        refine vl_q (q_move rfl) (dk rfl) ?_
        refine vl_q (q_add rfl rfl (IntWalk.i64_in _ (by omega))) (dk rfl) ?_
        refine vl_q (q_sub rfl rfl (IntWalk.i64_in _ (by omega))) (dk rfl) ?_
        refine vl_q (q_move rfl) (dk rfl) ?_
        refine vl_q (q_quo rfl rfl (by first | decide | omega) (quo_nat (by omega) (by omega) (by omega))) (dk rfl) ?_
        refine vl_q (q_assign rfl) (dk rfl) ?_
        refine vl_nil ?_
        refine hK4 _ ?_
        refine vc_join (fun st => (True) ∧ st = mkSt [(0, .v (iv id)), (1, .v (sv w)), (2, .v (iv sz)), (8, .v (iv (nP w sz)))] [] 16) (fun K5 hK5 => ?_) (fun st hI => ?_)
        · refine vc_seq fun K6 hK6 => ?_
          refine vc_region ?_
          refine vl_q (q_move rfl) (dk rfl) ?_
          refine vl_two (x := fun b => vv (.bool b)) _ (q_cmp rfl rfl rfl rfl) (dk rfl) (fun h34 => ?_) (fun h34 => ?_)
          · replace h34 := eql_of h34
            refine vl_nil ?_
            refine hK6 _ ?_
            refine vc_cond_true rfl ?_
            refine vc_region ?_
            refine vl_q (q_assign rfl) (dk rfl) ?_
            refine vl_nil ?_
            refine hK5 _ ?_
            exact ⟨_, ⟨trivial, rfl⟩, (Weak.cut _ _ _ (Nat.le_of_ble_eq_true rfl) ⟨⟨rfl, rfl⟩, ⟨rfl, rfl⟩, ⟨rfl, rfl⟩, ⟨(iv_eq (by omega)), rfl⟩, trivial⟩ trivial rfl)⟩
          · replace h34 := eql_nof h34
            refine vl_nil ?_
            refine hK6 _ ?_
            refine vc_cond_false rfl ?_
            refine vc_skip ?_
            refine hK5 _ ?_
            exact ⟨_, ⟨trivial, rfl⟩, (Weak.cut _ _ _ (Nat.le_of_ble_eq_true rfl) ⟨⟨rfl, rfl⟩, ⟨rfl, rfl⟩, ⟨rfl, rfl⟩, ⟨(iv_eq (by omega)), rfl⟩, trivial⟩ trivial rfl)⟩
        obtain ⟨_, rfl⟩ := hI
        refine vc_seq fun K7 hK7 => ?_
        refine vc_seq fun K8 hK8 => ?_
        refine vc_region ?_
        refine vl_q (q_move rfl) (dk rfl) ?_
        refine vl_two (x := fun b => vv (.bool b)) _ (q_cmp rfl rfl rfl rfl) (dk rfl) (fun h36 => ?_) (fun h36 => ?_)
        · replace h36 := gtr_of h36
          omega
        · replace h36 := gtr_nof h36
          refine vl_nil ?_
          refine hK8 _ ?_
          refine vc_cond_false rfl ?_
          refine vc_skip ?_
          refine hK7 _ ?_
          refine vc_seq fun K9 hK9 => ?_
          refine vc_region ?_
          refine vl_bslice rfl rfl rfl rfl rfl rfl trivial (by decide) (by decide) (dk rfl) ?_
          refine vl_q (q_assign rfl) (dk rfl) ?_
          refine vl_nil ?_
          refine hK9 _ ?_
          refine vc_seq fun K10 hK10 => ?_
          refine vc_seq fun K11 hK11 => ?_
          refine vc_region ?_
          refine vl_q (q_assign rfl) (dk rfl) ?_
          refine vl_nil ?_
          refine hK11 _ ?_
          refine vc_block ?_
          refine vc_loop (fun mz st => ∃ i : Nat, (i ≤ nP w sz) ∧ mz = nP w sz - i ∧ st = mkSt [(0, .v (iv id)), (1, .v (sv w)), (2, .v (iv sz)), (8, .v (iv (nP w sz))), (9, .v (.one (.hdr 16 0 i))), (10, .v (iv i))] [(16, ⟨1, clo ((pcs id w sz i).map strC)⟩)] 17) ⟨_, _, ⟨0, by omega, rfl, rfl⟩, (Weak.cut _ _ _ (Nat.le_of_ble_eq_true rfl) ⟨⟨rfl, rfl⟩, ⟨rfl, rfl⟩, ⟨rfl, rfl⟩, ⟨rfl, rfl⟩, ⟨rfl, rfl⟩, ⟨rfl, rfl⟩, trivial⟩ ⟨⟨Nat.le_of_ble_eq_true rfl, rfl, belN_clo _ _ _⟩, trivial⟩ rfl)⟩ (fun mz st hI => ?_)
          obtain ⟨i, hi, hmz, rfl⟩ := hI
          refine vc_seq fun K12 hK12 => ?_
          refine vc_seq fun K13 hK13 => ?_
          refine vc_region ?_
          refine vl_q (q_move rfl) (dk rfl) ?_
          refine vl_q (q_move rfl) (dk rfl) ?_
          refine vl_two (x := fun b => vv (.bool b)) _ (q_cmp rfl rfl rfl rfl) (dk rfl) (fun h41 => ?_) (fun h41 => ?_)
          · replace h41 := lss_of h41
            refine vl_nil ?_
            refine hK13 _ ?_
            refine vc_cond_true rfl ?_
            refine vc_skip ?_
            refine hK12 _ ?_
            refine vc_seq fun K14 hK14 => ?_
            refine vc_block ?_
            refine vc_seq fun K15 hK15 => ?_
            have hi2 : i < nP w sz := by omega
            have hi1 := pc_le hi2 (by omega : 0 < sz)
            have hi3 : (i + 1) * sz = i * sz + sz := by rw [Nat.add_mul, Nat.one_mul]
            have hi4 : (i : Int) * (sz : Int) = ((i * sz : Nat) : Int) := by rw [Int.natCast_mul]
            have hi5 : ((i : Int) + 1) * (sz : Int) = (((i + 1) * sz : Nat) : Int) := by rw [Int.natCast_mul]; rfl
            have hi6 : i * sz ≤ 15 * 120 := Nat.mul_le_mul (by omega) hs.2
            generalize hA : i * sz = A at *
            generalize hB : (i + 1) * sz = B at *
            refine vc_region ?_
            refine vl_q (q_move rfl) (dk rfl) ?_
            refine vl_q (q_add rfl rfl (IntWalk.i64_in _ (by omega))) (dk rfl) ?_
            refine vl_q (q_move rfl) (dk rfl) ?_
            refine vl_q (q_mul rfl rfl ((congrArg IntKind.i64.wrap hi5).trans (IntWalk.i64_in _ (by omega)))) (dk rfl) ?_
            refine vl_q (q_assign rfl) (dk rfl) ?_
            refine vl_nil ?_
            refine hK15 _ ?_
            refine vc_join (fun st => (True) ∧ st = mkSt [(0, .v (iv id)), (1, .v (sv w)), (2, .v (iv sz)), (8, .v (iv (nP w sz))), (9, .v (.one (.hdr 16 0 i))), (10, .v (iv i)), (11, .v (iv (min B w.size : Nat)))] [(16, ⟨1, clo ((pcs id w sz i).map strC)⟩)] 17) (fun K16 hK16 => ?_) (fun st hI => ?_)
            · refine vc_seq fun K17 hK17 => ?_
              refine vc_region ?_
              refine vl_q (q_move rfl) (dk rfl) ?_
              refine vl_q (q_move rfl) (dk rfl) ?_
              refine vl_q (q_len_str rfl rfl rfl) (dk rfl) ?_
              refine vl_two (x := fun b => vv (.bool b)) _ (q_cmp rfl rfl rfl rfl) (dk rfl) (fun h51 => ?_) (fun h51 => ?_)
              · replace h51 := gtr_of h51
                refine vl_nil ?_
                refine hK17 _ ?_
                refine vc_cond_true rfl ?_
                refine vc_region ?_
                refine vl_q (q_move rfl) (dk rfl) ?_
                refine vl_q (q_len_str rfl rfl rfl) (dk rfl) ?_
                refine vl_q (q_assign rfl) (dk rfl) ?_
                refine vl_nil ?_
                refine hK16 _ ?_
                exact ⟨_, ⟨trivial, rfl⟩, (Weak.cut _ _ _ (Nat.le_of_ble_eq_true rfl) ⟨⟨rfl, rfl⟩, ⟨rfl, rfl⟩, ⟨rfl, rfl⟩, ⟨rfl, rfl⟩, ⟨rfl, rfl⟩, ⟨rfl, rfl⟩, ⟨(iv_eq (by omega)), rfl⟩, trivial⟩ ⟨⟨Nat.le_of_ble_eq_true rfl, rfl, belN_clo _ _ _⟩, trivial⟩ rfl)⟩
              · replace h51 := gtr_nof h51
                refine vl_nil ?_
                refine hK17 _ ?_
                refine vc_cond_false rfl ?_
                refine vc_skip ?_
                refine hK16 _ ?_
                exact ⟨_, ⟨trivial, rfl⟩, (Weak.cut _ _ _ (Nat.le_of_ble_eq_true rfl) ⟨⟨rfl, rfl⟩, ⟨rfl, rfl⟩, ⟨rfl, rfl⟩, ⟨rfl, rfl⟩, ⟨rfl, rfl⟩, ⟨rfl, rfl⟩, ⟨(iv_eq (by omega)), rfl⟩, trivial⟩ ⟨⟨Nat.le_of_ble_eq_true rfl, rfl, belN_clo _ _ _⟩, trivial⟩ rfl)⟩
            obtain ⟨_, rfl⟩ := hI
            refine vc_region_any mixed (fun n => false) true rfl rfl (fun _ hU18 => hU18) fun w1 S1 L1 Z1 H1 => ?_
            refine va_q 0 rfl (by kernel_rfl) (by kernel_rfl) (by kernel_rfl) (q_move rfl) (dk rfl) ?_
            refine va_q 1 rfl (by kernel_rfl) (by kernel_rfl) (by kernel_rfl) (q_move rfl) (dk rfl) ?_
            refine va_q 3 rfl (by kernel_rfl) (by kernel_rfl) (by kernel_rfl) (q_move rfl) (dk rfl) ?_
            refine va_q 6 rfl (by kernel_rfl) (by kernel_rfl) (by kernel_rfl) (q_move rfl) (dk rfl) ?_
            refine va_q 9 rfl (by kernel_rfl) (by kernel_rfl) (by kernel_rfl) (q_move rfl) (dk rfl) ?_
            refine va_q 10 rfl (by kernel_rfl) (by kernel_rfl) (by kernel_rfl) (q_move rfl) (dk rfl) ?_
            refine va_q 11 rfl (by kernel_rfl) (by kernel_rfl) (by kernel_rfl) (q_move rfl) (dk rfl) ?_
            refine va_q 12 rfl (by kernel_rfl) (by kernel_rfl) (by kernel_rfl) (q_mul rfl rfl ((congrArg IntKind.i64.wrap hi4).trans (IntWalk.i64_in _ (by omega)))) (dk rfl) ?_
            refine va_q 13 rfl (by kernel_rfl) (by kernel_rfl) (by kernel_rfl) (q_move rfl) (dk rfl) ?_
            refine va_q 14 rfl (by kernel_rfl) (by kernel_rfl) (by kernel_rfl) (q_slice_str rfl rfl rfl rfl rfl (by omega) (by omega) (by omega)) (dk rfl) ?_
            refine va_all [2] (by kernel_rfl) (by simp) ⟨⟨_, rfl, ?_⟩, trivial⟩
            refine vl_callP (c_spec_l05Byte _ (by omega)) rfl rfl ⟨XOk.val _, trivial⟩ rfl (.inr rfl) (dk rfl) ?_
            refine vl_nil ?_
            refine va_all [4] (by kernel_rfl) (by simp) ⟨⟨_, rfl, ?_⟩, trivial⟩
            refine vl_callP (c_spec_l05Byte _ (by omega)) rfl rfl ⟨XOk.val _, trivial⟩ rfl (.inr rfl) (dk rfl) ?_
            refine vl_nil ?_
            refine va_q 5 rfl (by kernel_rfl) (by kernel_rfl) (by kernel_rfl) (q_cat rfl rfl (by rw [bstr_size1, bstr_size1]; decide)) (dk rfl) ?_
            refine va_all [7] (by kernel_rfl) (by simp) ⟨⟨_, rfl, ?_⟩, trivial⟩
            refine vl_callP (c_spec_l05Byte _ (by omega)) rfl rfl ⟨XOk.val _, trivial⟩ rfl (.inr rfl) (dk rfl) ?_
            refine vl_nil ?_
            refine va_q 8 rfl (by kernel_rfl) (by kernel_rfl) (by kernel_rfl) (q_cat rfl rfl (by rw [ByteArray.size_append, bstr_size1, bstr_size1, bstr_size1]; decide)) (dk rfl) ?_
            refine va_q 15 rfl (by kernel_rfl) (by kernel_rfl) (by kernel_rfl) (q_cat rfl rfl (by simp only [ByteArray.size_append, bstr_size1, ByteArray.size_extract]; omega)) (dk rfl) ?_
            refine va_all [16] (by kernel_rfl) (by simp) ⟨⟨_, rfl, ?_⟩, trivial⟩
            refine vl_bslice rfl rfl rfl rfl rfl rfl ⟨rfl, trivial⟩ (by decide) (by decide) (dk rfl) ?_
            refine vl_nil ?_
            refine va_all [17] (by kernel_rfl) (by simp) ⟨⟨_, rfl, ?_⟩, trivial⟩
            refine vl_append rfl rfl rfl rfl (fun _ h => TypeDesc.noConfusion h) rfl rfl rfl (by simp [clo, pcs_len]) (src_row rfl rfl rfl rfl) (by show (_ + 1) * 16 ≤ _; omega) (by show _ + 1 < _; omega) (dk rfl) ?_
            refine vl_nil ?_
            refine va_q 18 rfl (by kernel_rfl) (by kernel_rfl) (by kernel_rfl) (q_assign rfl) (dk rfl) ?_
            refine va_done (by kernel_rfl) ?_
            refine hK14 _ ?_
            refine vc_region ?_
            refine vl_q (q_move rfl) (dk rfl) ?_
            refine vl_q (q_add rfl rfl (IntWalk.i64_in _ (by omega))) (dk rfl) ?_
            refine vl_q (q_assign rfl) (dk rfl) ?_
            refine vl_nil ?_
            refine ⟨_, _, ?_, ⟨i + 1, by omega, rfl, rfl⟩, (Weak.to (fun n => bif Nat.beq n 16 then 18 else n) _ _ _ (Nat.le_of_ble_eq_true rfl) (fun n hn => sgm_lo hn (Nat.le_of_ble_eq_true rfl) (rfl)) ⟨⟨rfl, rfl⟩, ⟨rfl, rfl⟩, ⟨rfl, rfl⟩, ⟨rfl, rfl⟩, ⟨rfl, rfl⟩, ⟨rfl, rfl⟩, trivial⟩ ⟨⟨Nat.le_of_ble_eq_true rfl, _, some_node (pcs_next (l := (A : Int).toNat) (h := ((min B w.size : Nat) : Int).toNat) (by omega) (by rw [hB]; omega)), NR.clo _ _ _ _⟩, trivial⟩ (nodupB_ok rfl))⟩
            omega
          · replace h41 := lss_nof h41
            refine vl_nil ?_
            refine hK13 _ ?_
            refine vc_cond_false rfl ?_
            refine vc_exit ?_
            refine hK10 _ ?_
            refine vc_seq fun K19 hK19 => ?_
            obtain rfl : i = nP w sz := by omega
            refine vc_region ?_
            refine vl_q (q_move rfl) (dk rfl) ?_
            refine vl_q (q_assign rfl) (dk rfl) ?_
            refine vl_q (q_assign rfl) (dk rfl) ?_
            refine vl_nil ?_
            refine hK19 _ ?_
            refine vc_ret ?_
            refine ret_g [16] rfl (.cons (res_tmp rfl) (.cons (res_tmp rfl) .nil)) rfl rfl (nodupB_ok rfl) ⟨by decide, trivial⟩ ⟨⟨_, rfl, NR.clo _ _ _ _⟩, trivial⟩ trivial (Nat.zero_le _)
    · rw [within_t (by omega) (by omega)] at h17; cases h17
  · rw [within_t hid.1 hid.2] at h13; cases h13
end Go.Vm.S
namespace Go.Vm.S
open Go Go.Vm
set_option maxRecDepth 100000
set_option linter.unusedVariables false
set_option maxHeartbeats 4000000
theorem at32 : FnAt Pg 32 Go.Proofs.Try.f32 := ⟨by kernel_rfl, rfl, by decide⟩
theorem c_spec_l01Byte (d : Dr) :
    Ctr Pg ty 32 [.one (.ptr 0 0 0)] [drN d] (Gives (vv (.int .i64 (dByte d).1)) [] [drN (dByte d).2]) := by
  refine ctr at32 rfl (nsK_gives rfl trivial ⟨drN_ns _, trivial⟩) (Nat.le_of_ble_eq_true rfl) fun w0 S0 L0 Z => ?_
  refine vc_seq fun K1 hK1 => ?_
  refine vc_region ?_
  refine vl_q (q_assign rfl) (dk rfl) ?_
  refine vl_nil ?_
  refine hK1 _ ?_
  refine vc_seq fun K2 hK2 => ?_
  refine vc_region ?_
  refine vl_q (q_move rfl) (dk rfl) ?_
  refine vl_q (q_move rfl) (dk rfl) ?_
  refine vl_q (q_nilCheck rfl rfl) (dk rfl) ?_
  refine vl_q (q_fieldAddr 2 rfl rfl rfl rfl (by decide) rfl rfl) (dk rfl) ?_
  refine vl_load rfl rfl rfl rfl rfl rfl rfl (by decide) (dk rfl) ?_
  refine vl_q (q_mul rfl rfl rfl) (dk rfl) ?_
  refine vl_q (q_add rfl rfl rfl) (dk rfl) ?_
  refine vl_q (q_nilCheck rfl rfl) (dk rfl) ?_
  refine vl_q (q_fieldAddr 2 rfl rfl rfl rfl (by decide) rfl rfl) (dk rfl) ?_
  refine vl_store rfl rfl rfl rfl rfl rfl (Nat.le_of_ble_eq_true rfl) trivial ?_
  refine vl_nil ?_
  refine hK2 _ ?_
  refine vc_seq fun K3 hK3 => ?_
  refine vc_region_any mixed (fun n => Nat.beq n 0) true rfl rfl (fun _ hU4 => hU4) fun w1 S1 L1 Z1 H1 => ?_
  refine va_q 0 rfl (by kernel_rfl) (by kernel_rfl) (by kernel_rfl) (q_move rfl) (dk rfl) ?_
  refine va_q 1 rfl (by kernel_rfl) (by kernel_rfl) (by kernel_rfl) (q_nilCheck rfl rfl) (dk rfl) ?_
  refine va_q 2 rfl (by kernel_rfl) (by kernel_rfl) (by kernel_rfl) (q_fieldAddr 2 rfl rfl rfl rfl (by decide) rfl rfl) (dk rfl) ?_
  refine va_q 3 rfl (by kernel_rfl) (by kernel_rfl) (by kernel_rfl) (q_load rfl rfl rfl rfl rfl rfl rfl (by decide)) (dk rfl) ?_
  refine va_q 4 rfl (by kernel_rfl) (by kernel_rfl) (by kernel_rfl) (q_shr rfl rfl (by decide) rfl) (dk rfl) ?_
  refine va_q 5 rfl (by kernel_rfl) (by kernel_rfl) (by kernel_rfl) (q_move rfl) (dk rfl) ?_
  refine va_q 6 rfl (by kernel_rfl) (by kernel_rfl) (by kernel_rfl) (q_nilCheck rfl rfl) (dk rfl) ?_
  refine va_q 7 rfl (by kernel_rfl) (by kernel_rfl) (by kernel_rfl) (q_fieldAddr 2 rfl rfl rfl rfl (by decide) rfl rfl) (dk rfl) ?_
  refine va_q 8 rfl (by kernel_rfl) (by kernel_rfl) (by kernel_rfl) (q_load rfl rfl rfl rfl rfl rfl rfl (by decide)) (dk rfl) ?_
  refine va_q 9 rfl (by kernel_rfl) (by kernel_rfl) (by kernel_rfl) (q_shr rfl rfl (by decide) rfl) (dk rfl) ?_
  refine va_q 10 rfl (by kernel_rfl) (by kernel_rfl) (by kernel_rfl) (q_bit rfl rfl rfl rfl) (dk rfl) ?_
  refine va_q 11 rfl (by kernel_rfl) (by kernel_rfl) (by kernel_rfl) (q_bit rfl rfl rfl rfl) (dk rfl) ?_
  refine va_q 12 rfl (by kernel_rfl) (by kernel_rfl) (by kernel_rfl) (q_assign rfl) (dk rfl) ?_
  refine va_done (by kernel_rfl) ?_
  refine hK3 _ ?_
  refine vc_seq fun K5 hK5 => ?_
  refine vc_seq fun K6 hK6 => ?_
  refine vc_region_any mixed (fun n => Nat.beq n 0) true rfl rfl (fun _ hU7 => hU7) fun w1 S1 L1 Z1 H1 => ?_
  refine va_q 0 rfl (by kernel_rfl) (by kernel_rfl) (by kernel_rfl) (q_move rfl) (dk rfl) ?_
  refine va_q 1 rfl (by kernel_rfl) (by kernel_rfl) (by kernel_rfl) (q_nilCheck rfl rfl) (dk rfl) ?_
  refine va_q 2 rfl (by kernel_rfl) (by kernel_rfl) (by kernel_rfl) (q_fieldAddr 1 rfl rfl rfl rfl (by decide) rfl rfl) (dk rfl) ?_
  refine va_q 3 rfl (by kernel_rfl) (by kernel_rfl) (by kernel_rfl) (q_load rfl rfl rfl rfl rfl rfl rfl (by decide)) (dk rfl) ?_
  refine va_q 4 rfl (by kernel_rfl) (by kernel_rfl) (by kernel_rfl) (q_move rfl) (dk rfl) ?_
  refine va_q 5 rfl (by kernel_rfl) (by kernel_rfl) (by kernel_rfl) (q_nilCheck rfl rfl) (dk rfl) ?_
  refine va_q 6 rfl (by kernel_rfl) (by kernel_rfl) (by kernel_rfl) (q_fieldAddr 0 rfl rfl rfl rfl (by decide) rfl rfl) (dk rfl) ?_
  refine va_q 7 rfl (by kernel_rfl) (by kernel_rfl) (by kernel_rfl) (q_load rfl rfl rfl rfl rfl rfl rfl (by decide)) (dk rfl) ?_
  refine va_q 8 rfl (by kernel_rfl) (by kernel_rfl) (by kernel_rfl) (q_len_fz rfl rfl rfl) (dk rfl) ?_
  refine va_two 9 (x := fun b => vv (.bool b)) _ rfl (by kernel_rfl) (by kernel_rfl) (by kernel_rfl) (q_cmp rfl rfl rfl rfl) (dk rfl) (fun h34 => ?_) (fun h34 => ?_)
  · replace h34 := lss_of h34
    simp only [List.length_map] at h34
    have hp : d.pos < d.bs.length := by omega
    have hok := d.ok
    refine va_done (by kernel_rfl) ?_
    refine hK6 _ ?_
    refine vc_cond_true rfl ?_
    refine vc_seq fun K8 hK8 => ?_
    refine vc_region_any mixed (fun n => Nat.beq n 0) true rfl rfl (fun _ hU9 => hU9) fun w1 S1 L1 Z1 H1 => ?_
    refine va_q 0 rfl (by kernel_rfl) (by kernel_rfl) (by kernel_rfl) (q_move rfl) (dk rfl) ?_
    refine va_q 1 rfl (by kernel_rfl) (by kernel_rfl) (by kernel_rfl) (q_move rfl) (dk rfl) ?_
    refine va_q 2 rfl (by kernel_rfl) (by kernel_rfl) (by kernel_rfl) (q_nilCheck rfl rfl) (dk rfl) ?_
    refine va_q 3 rfl (by kernel_rfl) (by kernel_rfl) (by kernel_rfl) (q_fieldAddr 0 rfl rfl rfl rfl (by decide) rfl rfl) (dk rfl) ?_
    refine va_q 4 rfl (by kernel_rfl) (by kernel_rfl) (by kernel_rfl) (q_load rfl rfl rfl rfl rfl rfl rfl (by decide)) (dk rfl) ?_
    refine va_q 5 rfl (by kernel_rfl) (by kernel_rfl) (by kernel_rfl) (q_move rfl) (dk rfl) ?_
    refine va_q 6 rfl (by kernel_rfl) (by kernel_rfl) (by kernel_rfl) (q_nilCheck rfl rfl) (dk rfl) ?_
    refine va_q 7 rfl (by kernel_rfl) (by kernel_rfl) (by kernel_rfl) (q_fieldAddr 1 rfl rfl rfl rfl (by decide) rfl rfl) (dk rfl) ?_
    refine va_q 8 rfl (by kernel_rfl) (by kernel_rfl) (by kernel_rfl) (q_load rfl rfl rfl rfl rfl rfl rfl (by decide)) (dk rfl) ?_
    refine va_q 9 rfl (by kernel_rfl) (by kernel_rfl) (by kernel_rfl) (q_indexAddr_fz rfl rfl rfl rfl rfl rfl (by decide) (by omega) (get_map (by omega))) (dk rfl) ?_
    refine va_q 10 rfl (by kernel_rfl) (by kernel_rfl) (by kernel_rfl) (q_load_sp rfl rfl rfl rfl rfl (by decide)) (dk rfl) ?_
    refine va_q 11 rfl (by kernel_rfl) (by kernel_rfl) (by kernel_rfl) (q_convInt rfl rfl rfl rfl rfl) (dk rfl) ?_
    refine va_q 12 rfl (by kernel_rfl) (by kernel_rfl) (by kernel_rfl) (q_add rfl rfl rfl) (dk rfl) ?_
    refine va_q 13 rfl (by kernel_rfl) (by kernel_rfl) (by kernel_rfl) (q_bit rfl rfl rfl rfl) (dk rfl) ?_
    refine va_q 14 rfl (by kernel_rfl) (by kernel_rfl) (by kernel_rfl) (q_assign rfl) (dk rfl) ?_
    refine va_done (by kernel_rfl) ?_
    refine hK8 _ ?_
    refine vc_region ?_
    refine vl_q (q_move rfl) (dk rfl) ?_
    refine vl_q (q_move rfl) (dk rfl) ?_
    refine vl_q (q_nilCheck rfl rfl) (dk rfl) ?_
    refine vl_q (q_fieldAddr 1 rfl rfl rfl rfl (by decide) rfl rfl) (dk rfl) ?_
    refine vl_load rfl rfl rfl rfl rfl rfl rfl (by decide) (dk rfl) ?_
    refine vl_q (q_add rfl rfl (IntWalk.i64_in _ (by omega))) (dk rfl) ?_
    refine vl_q (q_nilCheck rfl rfl) (dk rfl) ?_
    refine vl_q (q_fieldAddr 1 rfl rfl rfl rfl (by decide) rfl rfl) (dk rfl) ?_
    refine vl_store rfl rfl rfl rfl rfl rfl (Nat.le_of_ble_eq_true rfl) trivial ?_
    refine vl_nil ?_
    refine hK5 _ ?_
    refine vc_seq fun K10 hK10 => ?_
    refine vc_region ?_
    refine vl_q (q_move rfl) (dk rfl) ?_
    refine vl_q (q_assign rfl) (dk rfl) ?_
    refine vl_nil ?_
    refine hK10 _ ?_
    refine vc_ret ?_
    refine ret_g [] rfl (.cons (res_tmp rfl) .nil) (by rw [dByte_t hp]; rfl) rfl (nodupB_ok rfl) trivial trivial ⟨⟨_, by rw [dByte_t hp]; rfl, NR.clo _ _ _ _⟩, trivial⟩ (Nat.le_of_ble_eq_true rfl)
  · replace h34 := lss_nof h34
    simp only [List.length_map] at h34
    have hp : ¬ d.pos < d.bs.length := by omega
    refine va_done (by kernel_rfl) ?_
    refine hK6 _ ?_
    refine vc_cond_false rfl ?_
    refine vc_skip ?_
    refine hK5 _ ?_
    refine vc_seq fun K11 hK11 => ?_
    refine vc_region ?_
    refine vl_q (q_move rfl) (dk rfl) ?_
    refine vl_q (q_assign rfl) (dk rfl) ?_
    refine vl_nil ?_
    refine hK11 _ ?_
    refine vc_ret ?_
    refine ret_g [] rfl (.cons (res_tmp rfl) .nil) (by rw [dByte_f hp]; rfl) rfl (nodupB_ok rfl) trivial trivial ⟨⟨_, by rw [dByte_f hp]; rfl, NR.clo _ _ _ _⟩, trivial⟩ (Nat.le_of_ble_eq_true rfl)
theorem at27 : FnAt Pg 27 Go.Proofs.Try.f27 := ⟨by kernel_rfl, rfl, by decide⟩
theorem c_spec_l01Below (d : Dr) (n : Int) :
    Ctr Pg ty 27 [.one (.ptr 0 0 0), iv n] [drN d] (Gives (vv (.int .i64 (dBelow d n).1)) [] [drN (dBelow d n).2]) := by
  refine ctr at27 rfl (nsK_gives rfl trivial ⟨drN_ns _, trivial⟩) (Nat.le_of_ble_eq_true rfl) fun w0 S0 L0 Z => ?_
  refine vc_seq fun K1 hK1 => ?_
  refine vc_region ?_
  refine vl_q (q_assign rfl) (dk rfl) ?_
  refine vl_nil ?_
  refine hK1 _ ?_
  refine vc_seq fun K2 hK2 => ?_
  refine vc_seq fun K3 hK3 => ?_
  refine vc_region ?_
  refine vl_q (q_move rfl) (dk rfl) ?_
  refine vl_two (x := fun b => vv (.bool b)) _ (q_cmp rfl rfl rfl rfl) (dk rfl) (fun h10 => ?_) (fun h10 => ?_)
  · replace h10 := leq_of h10
    refine vl_nil ?_
    refine hK3 _ ?_
    refine vc_cond_true rfl ?_
    refine vc_seq fun K4 hK4 => ?_
    refine vc_region ?_
    refine vl_q (q_assign rfl) (dk rfl) ?_
    refine vl_nil ?_
    refine hK4 _ ?_
    refine vc_ret ?_
    refine ret_g [] rfl (.cons (res_tmp rfl) .nil) (by rw [dBelow_z (by omega)]; rfl) rfl (nodupB_ok rfl) trivial trivial ⟨⟨_, by rw [dBelow_z (by omega)]; rfl, NR.clo _ _ _ _⟩, trivial⟩ (Nat.le_of_ble_eq_true rfl)
  · replace h10 := leq_nof h10
    refine vl_nil ?_
    refine hK3 _ ?_
    refine vc_cond_false rfl ?_
    refine vc_skip ?_
    refine hK2 _ ?_
    refine vc_seq fun K5 hK5 => ?_
    refine vc_seq fun K6 hK6 => ?_
    refine vc_region ?_
    refine vl_q (q_move rfl) (dk rfl) ?_
    refine vl_two (x := fun b => vv (.bool b)) _ (q_cmp rfl rfl rfl rfl) (dk rfl) (fun h12 => ?_) (fun h12 => ?_)
    · replace h12 := leq_of h12
      refine vl_nil ?_
      refine hK6 _ ?_
      refine vc_cond_true rfl ?_
      refine vc_seq fun K7 hK7 => ?_
      refine vc_region ?_
      refine vl_q (q_move rfl) (dk rfl) ?_
      refine vl_callG [0] (vv (.int .i64 _)) (c_spec_l01Byte _) rfl rfl ⟨XOk.ptr rfl (by decide) _ _, trivial⟩ ⟨⟨_, rfl, NR.clo _ _ _ _⟩, trivial⟩ rfl (by decide) trivial ⟨fix_clo _ _, trivial⟩ rfl (.inl rfl) (dk rfl) ?_
      refine vl_q (q_move rfl) (dk rfl) ?_
      refine vl_q (q_rem rfl rfl (by first | decide | omega) rfl) (dk rfl) ?_
      refine vl_q (q_assign rfl) (dk rfl) ?_
      refine vl_nil ?_
      refine hK7 _ ?_
      refine vc_ret ?_
      refine ret_g [] rfl (.cons (res_tmp rfl) .nil) (by rw [dBelow_s (by omega) (by omega)]; rfl) rfl (nodupB_ok rfl) trivial trivial ⟨⟨_, by rw [dBelow_s (by omega) (by omega)]; rfl, NR.clo _ _ _ _⟩, trivial⟩ (Nat.le_of_ble_eq_true rfl)
    · replace h12 := leq_nof h12
      refine vl_nil ?_
      refine hK6 _ ?_
      refine vc_cond_false rfl ?_
      refine vc_skip ?_
      refine hK5 _ ?_
      refine vc_seq fun K8 hK8 => ?_
      refine vc_region ?_
      refine vl_q (q_move rfl) (dk rfl) ?_
      refine vl_callG [0] (vv (.int .i64 _)) (c_spec_l01Byte _) rfl rfl ⟨XOk.ptr rfl (by decide) _ _, trivial⟩ ⟨⟨_, rfl, NR.clo _ _ _ _⟩, trivial⟩ rfl (by decide) trivial ⟨fix_clo _ _, trivial⟩ rfl (.inl rfl) (dk rfl) ?_
      refine vl_q (q_assign rfl) (dk rfl) ?_
      refine vl_nil ?_
      refine hK8 _ ?_
      refine vc_seq fun K9 hK9 => ?_
      refine vc_region ?_
      refine vl_q (q_move rfl) (dk rfl) ?_
      refine vl_callG [0] (vv (.int .i64 _)) (c_spec_l01Byte _) rfl rfl ⟨XOk.ptr rfl (by decide) _ _, trivial⟩ ⟨⟨_, rfl, NR.clo _ _ _ _⟩, trivial⟩ rfl (by decide) trivial ⟨fix_clo _ _, trivial⟩ rfl (.inl rfl) (dk rfl) ?_
      refine vl_q (q_assign rfl) (dk rfl) ?_
      refine vl_nil ?_
      refine hK9 _ ?_
      refine vc_seq fun K10 hK10 => ?_
      refine vc_region ?_
      refine vl_q (q_move rfl) (dk rfl) ?_
      refine vl_callG [0] (vv (.int .i64 _)) (c_spec_l01Byte _) rfl rfl ⟨XOk.ptr rfl (by decide) _ _, trivial⟩ ⟨⟨_, rfl, NR.clo _ _ _ _⟩, trivial⟩ rfl (by decide) trivial ⟨fix_clo _ _, trivial⟩ rfl (.inl rfl) (dk rfl) ?_
      refine vl_q (q_assign rfl) (dk rfl) ?_
      refine vl_nil ?_
      refine hK10 _ ?_
      refine vc_seq fun K11 hK11 => ?_
      refine vc_region ?_
      refine vl_q (q_move rfl) (dk rfl) ?_
      refine vl_callG [0] (vv (.int .i64 _)) (c_spec_l01Byte _) rfl rfl ⟨XOk.ptr rfl (by decide) _ _, trivial⟩ ⟨⟨_, rfl, NR.clo _ _ _ _⟩, trivial⟩ rfl (by decide) trivial ⟨fix_clo _ _, trivial⟩ rfl (.inl rfl) (dk rfl) ?_
      refine vl_q (q_assign rfl) (dk rfl) ?_
      refine vl_nil ?_
      refine hK11 _ ?_
      refine vc_seq fun K12 hK12 => ?_
      have h1 := dByte_lt d
      have h2 := dByte_lt (dByte d).2
      have h3 := dByte_lt (dByte (dByte d).2).2
      have h4 := dByte_lt (dByte (dByte (dByte d).2).2).2
      refine vc_region ?_
      refine vl_q (q_move rfl) (dk rfl) ?_
      refine vl_q (q_mul rfl rfl (IntWalk.i64_in _ (by omega))) (dk rfl) ?_
      refine vl_q (q_move rfl) (dk rfl) ?_
      refine vl_q (q_mul rfl rfl (IntWalk.i64_in _ (by omega))) (dk rfl) ?_
      refine vl_q (q_add rfl rfl (IntWalk.i64_in _ (by omega))) (dk rfl) ?_
      refine vl_q (q_move rfl) (dk rfl) ?_
      refine vl_q (q_mul rfl rfl (IntWalk.i64_in _ (by omega))) (dk rfl) ?_
      refine vl_q (q_add rfl rfl (IntWalk.i64_in _ (by omega))) (dk rfl) ?_
      refine vl_q (q_move rfl) (dk rfl) ?_
      refine vl_q (q_add rfl rfl (IntWalk.i64_in _ (by omega))) (dk rfl) ?_
      refine vl_q (q_move rfl) (dk rfl) ?_
      refine vl_q (q_rem rfl rfl (by first | decide | omega) rfl) (dk rfl) ?_
      refine vl_q (q_assign rfl) (dk rfl) ?_
      refine vl_nil ?_
      refine hK12 _ ?_
      refine vc_ret ?_
      refine ret_g [] rfl (.cons (res_tmp rfl) .nil) (by rw [dBelow_l (by omega)]; rfl) rfl (nodupB_ok rfl) trivial trivial ⟨⟨_, by rw [dBelow_l (by omega)]; rfl, NR.clo _ _ _ _⟩, trivial⟩ (Nat.le_of_ble_eq_true rfl)
theorem at52 : FnAt Pg 52 Go.Proofs.Try.f52 := ⟨by kernel_rfl, rfl, by decide⟩
theorem c_spec_l01Text (d : Dr) (n : Nat) (hn : n ≤ 5000) :
    Ctr Pg ty 52 [.one (.ptr 0 0 0), iv n] [drN d] (Gives (vv (.string (dText d n).1)) [] [drN (dText d n).2]) := by
  refine ctr at52 rfl (nsK_gives rfl trivial ⟨drN_ns _, trivial⟩) (Nat.le_of_ble_eq_true rfl) fun w0 S0 L0 Z => ?_
  refine vc_seq fun K1 hK1 => ?_
  refine vc_region ?_
  refine vl_q (q_assign rfl) (dk rfl) ?_
  refine vl_nil ?_
  refine hK1 _ ?_
  refine vc_seq fun K2 hK2 => ?_
  refine vc_seq fun K3 hK3 => ?_
  refine vc_region ?_
  refine vl_q (q_move rfl) (dk rfl) ?_
  refine vl_two (x := fun b => vv (.bool b)) _ (q_cmp rfl rfl rfl rfl) (dk rfl) (fun h8 => ?_) (fun h8 => ?_)
  · replace h8 := gtr_of h8
    omega
  · replace h8 := gtr_nof h8
    refine vl_nil ?_
    refine hK3 _ ?_
    refine vc_cond_false rfl ?_
    refine vc_skip ?_
    refine hK2 _ ?_
    refine vc_seq fun K4 hK4 => ?_
    refine vc_region ?_
    refine vl_bslice rfl rfl rfl rfl rfl rfl trivial (by decide) (by decide) (dk rfl) ?_
    refine vl_q (q_assign rfl) (dk rfl) ?_
    refine vl_nil ?_
    refine hK4 _ ?_
    refine vc_seq fun K5 hK5 => ?_
    refine vc_seq fun K6 hK6 => ?_
    refine vc_region ?_
    refine vl_q (q_assign rfl) (dk rfl) ?_
    refine vl_nil ?_
    refine hK6 _ ?_
    refine vc_block ?_
    refine vc_loop (fun mz st => ∃ i : Nat, (i ≤ n) ∧ mz = n - i ∧ st = mkSt [(0, .v (.one (.ptr 0 0 0))), (1, .v (iv n)), (5, .v (.one (.hdr 16 0 i))), (6, .v (iv i))] [(0, drN (txS d i).2), (16, ⟨1, clo ((txS d i).1.map byteC)⟩)] 17) ⟨_, _, ⟨0, by omega, rfl, rfl⟩, (Weak.cut _ _ _ (Nat.le_of_ble_eq_true rfl) ⟨⟨rfl, rfl⟩, ⟨rfl, rfl⟩, ⟨rfl, rfl⟩, ⟨rfl, rfl⟩, trivial⟩ ⟨⟨Nat.le_of_ble_eq_true rfl, rfl, belN_clo _ _ _⟩, ⟨Nat.le_of_ble_eq_true rfl, rfl, belN_clo _ _ _⟩, trivial⟩ rfl)⟩ (fun mz st hI => ?_)
    obtain ⟨i, hi, hmz, rfl⟩ := hI
    refine vc_seq fun K7 hK7 => ?_
    refine vc_seq fun K8 hK8 => ?_
    refine vc_region ?_
    refine vl_q (q_move rfl) (dk rfl) ?_
    refine vl_q (q_move rfl) (dk rfl) ?_
    refine vl_two (x := fun b => vv (.bool b)) _ (q_cmp rfl rfl rfl rfl) (dk rfl) (fun h12 => ?_) (fun h12 => ?_)
    · replace h12 := lss_of h12
      refine vl_nil ?_
      refine hK8 _ ?_
      refine vc_cond_true rfl ?_
      refine vc_skip ?_
      refine hK7 _ ?_
      refine vc_seq fun K9 hK9 => ?_
      refine vc_block ?_
      refine vc_region ?_
      refine vl_q (q_move rfl) (dk rfl) ?_
      refine vl_q (q_move rfl) (dk rfl) ?_
      refine vl_callG [0] (vv (.int .i64 _)) (c_spec_l01Byte _) rfl rfl ⟨XOk.ptr rfl (by decide) _ _, trivial⟩ ⟨⟨_, rfl, NR.clo _ _ _ _⟩, trivial⟩ rfl (by decide) trivial ⟨fix_clo _ _, trivial⟩ rfl (.inl rfl) (dk rfl) ?_
      refine vl_q (q_convInt rfl rfl rfl rfl rfl) (dk rfl) ?_
      refine vl_bslice rfl rfl rfl rfl rfl rfl ⟨rfl, trivial⟩ (by decide) (by decide) (dk rfl) ?_
      refine vl_append rfl rfl rfl rfl (fun _ h => TypeDesc.noConfusion h) rfl rfl rfl (by simp [clo, txS_len]) (src_row rfl rfl rfl rfl) (by show (_ + 1) * 1 ≤ _; omega) (by show _ + 1 < _; omega) (dk rfl) ?_
      refine vl_q (q_assign rfl) (dk rfl) ?_
      refine vl_nil ?_
      refine hK9 _ ?_
      refine vc_region ?_
      refine vl_q (q_move rfl) (dk rfl) ?_
      refine vl_q (q_add rfl rfl (IntWalk.i64_in _ (by omega))) (dk rfl) ?_
      refine vl_q (q_assign rfl) (dk rfl) ?_
      refine vl_nil ?_
      refine ⟨_, _, ?_, ⟨i + 1, by omega, rfl, rfl⟩, (Weak.to (fun n => bif Nat.beq n 16 then 18 else n) _ _ _ (Nat.le_of_ble_eq_true rfl) (fun n hn => sgm_lo hn (Nat.le_of_ble_eq_true rfl) (rfl)) ⟨⟨rfl, rfl⟩, ⟨rfl, rfl⟩, ⟨rfl, rfl⟩, ⟨rfl, rfl⟩, trivial⟩ ⟨⟨Nat.le_of_ble_eq_true rfl, _, rfl, NR.clo _ _ _ _⟩, ⟨Nat.le_of_ble_eq_true rfl, _, some_node (txS_next d i), NR.clo _ _ _ _⟩, trivial⟩ (nodupB_ok rfl))⟩
      omega
    · replace h12 := lss_nof h12
      refine vl_nil ?_
      refine hK8 _ ?_
      refine vc_cond_false rfl ?_
      refine vc_exit ?_
      refine hK5 _ ?_
      refine vc_seq fun K10 hK10 => ?_
      obtain rfl : i = n := by omega
      refine vc_region ?_
      refine vl_q (q_move rfl) (dk rfl) ?_
      refine vl_bytesStr (ns := (txS d i).1) rfl rfl rfl rfl rfl rfl (src_hdr (nd := ⟨1, clo ((txS d i).1.map byteC)⟩) (lo := 0) (n := i) (xs := (txS d i).1.map byteX) rfl rfl (by simp [clo, txS_len]) (by rw [clo_bytes, List.drop_zero, List.take_of_length_le (by simp [txS_len])]) (bytes_plain _) (bytes_wid _)) (hdr_shape rfl (txS_len d i).symm) (dk rfl) ?_
      refine vl_q (q_assign rfl) (dk rfl) ?_
      refine vl_nil ?_
      refine hK10 _ ?_
      refine vc_ret ?_
      refine ret_g [] rfl (.cons (res_tmp rfl) .nil) (rfl) rfl (nodupB_ok rfl) trivial trivial ⟨⟨_, rfl, NR.clo _ _ _ _⟩, trivial⟩ (Nat.le_of_ble_eq_true rfl)
end Go.Vm.S
namespace Go.Vm.S
open Go Go.Vm
set_option maxRecDepth 100000
set_option linter.unusedVariables false
set_option maxHeartbeats 4000000
theorem at53 : FnAt Pg 53 Go.Proofs.Try.f53 := ⟨by kernel_rfl, rfl, by decide⟩
theorem c_spec_l01Long (n : Nat) (x : Int) (hn : n ≤ 5000) :
    Ctr Pg ty 53 [iv n, .one (.c (.val (.int .u8 x)))] [] (Gives (vv (.string (bstr (List.replicate n x)))) [] []) := by
  refine ctr at53 rfl (nsK_gives rfl trivial trivial) (Nat.le_of_ble_eq_true rfl) fun w0 S0 L0 Z => ?_
  refine vc_seq fun K1 hK1 => ?_
  refine vc_region ?_
  refine vl_q (q_assign rfl) (dk rfl) ?_
  refine vl_nil ?_
  refine hK1 _ ?_
  refine vc_seq fun K2 hK2 => ?_
  refine vc_region ?_
  refine vl_q (q_move rfl) (dk rfl) ?_
  refine vl_makeSlice rfl rfl rfl rfl rfl (by omega) (by omega) (by show ((1 : Nat) : Int) * _ ≤ _; omega) (by decide) (dk rfl) ?_
  refine vl_q (q_assign rfl) (dk rfl) ?_
  refine vl_nil ?_
  refine hK2 _ ?_
  refine vc_seq fun K3 hK3 => ?_
  refine vc_seq fun K4 hK4 => ?_
  refine vc_region ?_
  refine vl_q (q_assign rfl) (dk rfl) ?_
  refine vl_nil ?_
  refine hK4 _ ?_
  refine vc_block ?_
  refine vc_weak (Weak.node (m := 16) (nd' := ⟨1, clo (List.replicate 0 (byteC x) ++ List.replicate n (byteC 0))⟩) rfl (by simp only [Int.toNat_natCast, List.replicate_zero, List.nil_append, clo, List.map_replicate]; rfl)) ?_
  simp only [Int.toNat_natCast]
  refine vc_loop (fun mz st => ∃ i : Nat, (i ≤ n) ∧ mz = n - i ∧ st = mkSt [(0, .v (iv n)), (1, .v (.one (.c (.val (.int .u8 x))))), (5, .v (.one (.hdr 16 0 n))), (6, .v (iv i))] [(16, ⟨1, clo (List.replicate i (byteC x) ++ List.replicate (n - i) (byteC 0))⟩)] 17) ⟨_, _, ⟨0, by omega, rfl, rfl⟩, (Weak.cut _ _ _ (Nat.le_of_ble_eq_true rfl) ⟨⟨rfl, rfl⟩, ⟨rfl, rfl⟩, ⟨rfl, rfl⟩, ⟨rfl, rfl⟩, trivial⟩ ⟨⟨Nat.le_of_ble_eq_true rfl, rfl, belN_clo _ _ _⟩, trivial⟩ rfl)⟩ (fun mz st hI => ?_)
  obtain ⟨i, hi, hmz, rfl⟩ := hI
  refine vc_seq fun K5 hK5 => ?_
  refine vc_seq fun K6 hK6 => ?_
  refine vc_region ?_
  refine vl_q (q_move rfl) (dk rfl) ?_
  refine vl_q (q_move rfl) (dk rfl) ?_
  refine vl_two (x := fun b => vv (.bool b)) _ (q_cmp rfl rfl rfl rfl) (dk rfl) (fun h11 => ?_) (fun h11 => ?_)
  · replace h11 := lss_of h11
    refine vl_nil ?_
    refine hK6 _ ?_
    refine vc_cond_true rfl ?_
    refine vc_skip ?_
    refine hK5 _ ?_
    refine vc_seq fun K7 hK7 => ?_
    refine vc_block ?_
    refine vc_region ?_
    refine vl_q (q_move rfl) (dk rfl) ?_
    refine vl_q (q_move rfl) (dk rfl) ?_
    refine vl_q (q_move rfl) (dk rfl) ?_
    refine vl_q (q_indexAddr rfl rfl rfl rfl rfl rfl rfl (by omega) (by omega)) (dk rfl) ?_
    refine vl_store rfl rfl rfl rfl (fill_get (by omega)) rfl (Nat.le_of_ble_eq_true rfl) trivial ?_
    refine vl_nil ?_
    refine hK7 _ ?_
    refine vc_region ?_
    refine vl_q (q_move rfl) (dk rfl) ?_
    refine vl_q (q_add rfl rfl (IntWalk.i64_in _ (by omega))) (dk rfl) ?_
    refine vl_q (q_assign rfl) (dk rfl) ?_
    refine vl_nil ?_
    refine ⟨_, _, ?_, ⟨i + 1, by omega, rfl, rfl⟩, (Weak.cut _ _ _ (Nat.le_of_ble_eq_true rfl) ⟨⟨rfl, rfl⟩, ⟨rfl, rfl⟩, ⟨rfl, rfl⟩, ⟨rfl, rfl⟩, trivial⟩ ⟨⟨Nat.le_of_ble_eq_true rfl, some_node (fill_next (by omega)), belN_clo _ _ _⟩, trivial⟩ rfl)⟩
    omega
  · replace h11 := lss_nof h11
    refine vl_nil ?_
    refine hK6 _ ?_
    refine vc_cond_false rfl ?_
    refine vc_exit ?_
    refine hK3 _ ?_
    refine vc_seq fun K8 hK8 => ?_
    obtain rfl : i = n := by omega
    refine vc_region ?_
    refine vl_q (q_move rfl) (dk rfl) ?_
    refine vl_bytesStr (ns := List.replicate i x) rfl rfl rfl rfl rfl rfl (src_hdr (nd := ⟨1, clo (List.replicate i (byteC x) ++ List.replicate (i - i) (byteC 0))⟩) (lo := 0) (n := i) (xs := (List.replicate i x).map byteX) rfl rfl (by simp [clo]) (by simp [clo, byteC, byteX]) (bytes_plain _) (bytes_wid _)) (hdr_shape rfl (by simp)) (dk rfl) ?_
    refine vl_q (q_assign rfl) (dk rfl) ?_
    refine vl_nil ?_
    refine hK8 _ ?_
    refine vc_ret ?_
    refine ret_p rfl (.cons (res_tmp rfl) .nil) rfl ?_
    rfl
theorem at54 : FnAt Pg 54 Go.Proofs.Try.f54 := ⟨by kernel_rfl, rfl, by decide⟩
theorem c_spec_l01PickInt (d : Dr) (l : List Int) (h0 : 0 < l.length) (h1 : l.length ≤ 256) :
    Ctr Pg ty 54 [.one (.ptr 0 0 0), shv 1 (l.map intC)] [drN d] (Gives (vv (.int .i64 (l.getD (dBelow d l.length).1.toNat 0))) [] [drN (dBelow d l.length).2]) := by
  refine ctr at54 rfl (nsK_gives rfl trivial ⟨drN_ns _, trivial⟩) (Nat.le_of_ble_eq_true rfl) fun w0 S0 L0 Z => ?_
  refine vc_seq fun K1 hK1 => ?_
  refine vc_region ?_
  refine vl_q (q_assign rfl) (dk rfl) ?_
  refine vl_nil ?_
  refine hK1 _ ?_
  refine vc_seq fun K2 hK2 => ?_
  refine vc_region ?_
  refine vl_q (q_move rfl) (dk rfl) ?_
  refine vl_q (q_move rfl) (dk rfl) ?_
  refine vl_q (q_move rfl) (dk rfl) ?_
  refine vl_q (q_len_sh rfl rfl rfl) (dk rfl) ?_
  simp only [List.length_map]
  refine vl_callG [0] (vv (.int .i64 _)) (c_spec_l01Below _ _) rfl rfl ⟨XOk.ptr rfl (by decide) _ _, XOk.val _, trivial⟩ ⟨⟨_, rfl, NR.clo _ _ _ _⟩, trivial⟩ rfl (by decide) trivial ⟨fix_clo _ _, trivial⟩ rfl (.inl rfl) (dk rfl) ?_
  have hlt := dBelow_lt d (n := l.length) (by omega)
  refine vl_q (q_indexAddr_sh rfl rfl rfl rfl rfl rfl (by decide) (by omega) (get_map (by omega))) (dk rfl) ?_
  refine vl_load_sp rfl rfl rfl rfl (by decide) (dk rfl) ?_
  refine vl_q (q_assign rfl) (dk rfl) ?_
  refine vl_nil ?_
  refine hK2 _ ?_
  refine vc_ret ?_
  refine ret_g [] rfl (.cons (res_tmp rfl) .nil) (by rw [getD_in (show (dBelow d l.length).1.toNat < l.length by omega)]; rfl) rfl (nodupB_ok rfl) trivial trivial ⟨⟨_, rfl, NR.clo _ _ _ _⟩, trivial⟩ (Nat.le_of_ble_eq_true rfl)
end Go.Vm.S
namespace Go.Vm.S
open Go Go.Vm
set_option maxRecDepth 100000
set_option linter.unusedVariables false
set_option maxHeartbeats 4000000
theorem at26 : FnAt Pg 26 Go.Proofs.Try.f26 := ⟨by kernel_rfl, rfl, by decide⟩
theorem c_spec_l20Long (d : Dr) :
    Ctr Pg ty 26 [.one (.ptr 0 0 0)] [drN d] (Gives (vv (.string (dLong d).1)) [] [drN (dLong d).2]) := by
  refine ctr at26 rfl (nsK_gives rfl trivial ⟨drN_ns _, trivial⟩) (Nat.le_of_ble_eq_true rfl) fun w0 S0 L0 Z => ?_
  refine vc_seq fun K1 hK1 => ?_
  refine vc_region ?_
  refine vl_q (q_assign rfl) (dk rfl) ?_
  refine vl_nil ?_
  refine hK1 _ ?_
  refine vc_seq fun K2 hK2 => ?_
  refine vc_region ?_
  refine vl_q (q_move rfl) (dk rfl) ?_
  refine vl_q (q_move rfl) (dk rfl) ?_
  refine vl_callG [0] (vv (.int .i64 _)) (c_spec_l01Below _ _) rfl rfl ⟨XOk.ptr rfl (by decide) _ _, XOk.val _, trivial⟩ ⟨⟨_, rfl, NR.clo _ _ _ _⟩, trivial⟩ rfl (by decide) trivial ⟨fix_clo _ _, trivial⟩ rfl (.inl rfl) (dk rfl) ?_
  have h1 := dBelow_lt d (n := 9) (by omega)
  obtain ⟨k, hk⟩ : ∃ k : Nat, (dBelow d 9).1 = k := ⟨(dBelow d 9).1.toNat, by omega⟩
  have hk2 : (dBelow d 9).1.toNat = k := by omega
  rw [hk]
  refine vl_callG [0] (vv (.string _)) (c_spec_l01Text _ k (by omega)) rfl rfl ⟨XOk.ptr rfl (by decide) _ _, XOk.val _, trivial⟩ ⟨⟨_, rfl, NR.clo _ _ _ _⟩, trivial⟩ rfl (by decide) trivial ⟨fix_clo _ _, trivial⟩ rfl (.inl rfl) (dk rfl) ?_
  refine vl_q (q_move rfl) (dk rfl) ?_
  refine vl_bslice rfl rfl rfl rfl rfl rfl ⟨rfl, rfl, rfl, rfl, rfl, rfl, rfl, trivial⟩ (by decide) (by decide) (dk rfl) ?_
  refine vl_callG [0] (vv (.int .i64 _)) (c_spec_l01PickInt _ longL (by decide) (by decide)) rfl rfl ⟨XOk.ptr rfl (by decide) _ _, XOk.snapH (es := longL.map intC) rfl (of_decide_eq_false rfl) rfl (map_wid fun _ => rfl) rfl, trivial⟩ ⟨⟨_, rfl, NR.clo _ _ _ _⟩, trivial⟩ rfl (by decide) trivial ⟨fix_clo _ _, trivial⟩ rfl (.inl rfl) (dk rfl) ?_
  refine vl_q (q_move rfl) (dk rfl) ?_
  refine vl_callG [0] (vv (.int .i64 _)) (c_spec_l01Below _ _) rfl rfl ⟨XOk.ptr rfl (by decide) _ _, XOk.val _, trivial⟩ ⟨⟨_, rfl, NR.clo _ _ _ _⟩, trivial⟩ rfl (by decide) trivial ⟨fix_clo _ _, trivial⟩ rfl (.inl rfl) (dk rfl) ?_
  have h8 := dBelow_lt (dBelow (dText (dBelow d 9).2 k).2 (longL.length : Nat)).2 (n := 9) (by omega)
  refine vl_q (q_add rfl rfl (IntWalk.i64_in _ (by omega))) (dk rfl) ?_
  refine vl_q (q_convInt rfl rfl rfl rfl rfl) (dk rfl) ?_
  have hb := longN_le (dText (dBelow d 9).2 k).2
  rw [longN_eq]
  refine vl_callP (c_spec_l01Long (longN (dText (dBelow d 9).2 k).2) _ (by omega)) rfl rfl ⟨XOk.val _, XOk.val _, trivial⟩ rfl (.inl rfl) (dk rfl) ?_
  refine vl_q (q_cat rfl rfl (by rw [dText_size, bstr_size, List.length_replicate]; omega)) (dk rfl) ?_
  refine vl_q (q_assign rfl) (dk rfl) ?_
  refine vl_nil ?_
  refine hK2 _ ?_
  refine vc_ret ?_
  refine ret_g [] rfl (.cons (res_tmp rfl) .nil) (by rw [dLong_eq hk2]; rfl) rfl (nodupB_ok rfl) trivial trivial ⟨⟨_, by rw [dLong_eq hk2]; rfl, NR.clo _ _ _ _⟩, trivial⟩ (Nat.le_of_ble_eq_true rfl)
end Go.Vm.S
namespace Go.Vm.S
open Go Go.Vm
set_option maxRecDepth 100000
set_option linter.unusedVariables false
set_option maxHeartbeats 4000000
theorem at7 : FnAt Pg 7 Go.Proofs.Try.f7 := ⟨by kernel_rfl, rfl, by decide⟩
theorem c_laws_big (bs : List Int) :
    Ctr Pg ty 7 [.one (.c (.fz 1 (bs.map byteC)))] [] (Gives (vv (.bool (decide ((1048576 : Int) < bs.length)))) [] []) := by
  refine ctr at7 rfl (nsK_gives rfl trivial trivial) (Nat.le_of_ble_eq_true rfl) fun w0 S0 L0 Z => ?_
  refine vc_seq fun K1 hK1 => ?_
  refine vc_region ?_
  refine vl_q (q_assign rfl) (dk rfl) ?_
  refine vl_nil ?_
  refine hK1 _ ?_
  refine vc_seq fun K2 hK2 => ?_
  refine vc_region ?_
  refine vl_q (q_move rfl) (dk rfl) ?_
  refine vl_q (q_len_fz rfl rfl rfl) (dk rfl) ?_
  refine vl_q (q_cmp rfl rfl rfl rfl) (dk rfl) ?_
  refine vl_q (q_assign rfl) (dk rfl) ?_
  refine vl_nil ?_
  refine hK2 _ ?_
  refine vc_ret ?_
  refine ret_p rfl (.cons (res_tmp rfl) .nil) rfl ?_
  simp only [List.length_map]; rfl
theorem at25 : FnAt Pg 25 Go.Proofs.Try.f25 := ⟨by kernel_rfl, rfl, by decide⟩
theorem c_spec_l01New (bs : List Int) (hb : bs.length ≤ 1048576) :
    Ctr Pg ty 25 [.one (.c (.fz 1 (bs.map byteC)))] [] (Gives (.v (.one (.ptr 16 0 0))) [drN (dNew bs hb)] []) := by
  refine ctr at25 rfl (nsK_gives rfl ⟨drN_ns _, trivial⟩ trivial) (Nat.le_of_ble_eq_true rfl) fun w0 S0 L0 Z => ?_
  refine vc_seq fun K1 hK1 => ?_
  refine vc_region ?_
  refine vl_q (q_assign rfl) (dk rfl) ?_
  refine vl_nil ?_
  refine hK1 _ ?_
  refine vc_seq fun K2 hK2 => ?_
  refine vc_region ?_
  refine vl_q (q_move rfl) (dk rfl) ?_
  refine vl_q (q_len_fz rfl rfl rfl) (dk rfl) ?_
  simp only [List.length_map]
  refine vl_q (q_add rfl rfl (IntWalk.i64_in _ (by omega))) (dk rfl) ?_
  refine vl_q (q_assign rfl) (dk rfl) ?_
  refine vl_nil ?_
  refine hK2 _ ?_
  refine vc_seq fun K3 hK3 => ?_
  refine vc_seq fun K4 hK4 => ?_
  refine vc_region ?_
  refine vl_q (q_assign rfl) (dk rfl) ?_
  refine vl_nil ?_
  refine hK4 _ ?_
  refine vc_block ?_
  refine vc_loop (fun mz st => ∃ i : Nat, (i ≤ min bs.length 4000) ∧ mz = bs.length - i ∧ st = mkSt [(0, .v (.one (.c (.fz 1 (bs.map byteC))))), (3, .v (iv (hS bs (36201 + bs.length) i))), (4, .v (iv i))] [] 16) ⟨_, _, ⟨0, by omega, rfl, rfl⟩, (Weak.cut _ _ _ (Nat.le_of_ble_eq_true rfl) ⟨⟨rfl, rfl⟩, ⟨rfl, rfl⟩, ⟨rfl, rfl⟩, trivial⟩ trivial rfl)⟩ (fun mz st hI => ?_)
  obtain ⟨i, hi, hmz, rfl⟩ := hI
  refine vc_seq fun K5 hK5 => ?_
  refine vc_seq fun K6 hK6 => ?_
  refine vc_region ?_
  refine vl_q (q_move rfl) (dk rfl) ?_
  refine vl_q (q_move rfl) (dk rfl) ?_
  refine vl_q (q_len_fz rfl rfl rfl) (dk rfl) ?_
  simp only [List.length_map]
  refine vl_two (x := fun b => vv (.bool b)) _ (q_cmp rfl rfl rfl rfl) (dk rfl) (fun h11 => ?_) (fun h11 => ?_)
  · replace h11 := lss_of h11
    refine vl_q (q_move rfl) (dk rfl) ?_
    refine vl_guard_on rfl rfl rfl ?_
    refine vl_q (q_move rfl) (dk rfl) ?_
    refine vl_guard_on rfl rfl rfl ?_
    refine vl_two (x := fun b => vv (.bool b)) _ (q_cmp rfl rfl rfl rfl) (dk rfl) (fun h14 => ?_) (fun h14 => ?_)
    · replace h14 := lss_of h14
      refine vl_q (q_pick_true rfl rfl) (dk rfl) ?_
      refine vl_nil ?_
      refine hK6 _ ?_
      refine vc_cond_true rfl ?_
      refine vc_skip ?_
      refine hK5 _ ?_
      refine vc_seq fun K7 hK7 => ?_
      refine vc_block ?_
      have hil : i < bs.length := by omega
      refine vc_region ?_
      refine vl_q (q_move rfl) (dk rfl) ?_
      refine vl_q (q_mul rfl rfl rfl) (dk rfl) ?_
      refine vl_q (q_move rfl) (dk rfl) ?_
      refine vl_q (q_move rfl) (dk rfl) ?_
      refine vl_q (q_indexAddr_fz rfl rfl rfl rfl rfl rfl (by decide) (by omega) (get_map (i := i) hil)) (dk rfl) ?_
      refine vl_load_sp rfl rfl rfl rfl (by decide) (dk rfl) ?_
      refine vl_q (q_convInt rfl rfl rfl rfl rfl) (dk rfl) ?_
      refine vl_q (q_add rfl rfl rfl) (dk rfl) ?_
      refine vl_q (q_add rfl rfl rfl) (dk rfl) ?_
      refine vl_q (q_bit rfl rfl rfl rfl) (dk rfl) ?_
      refine vl_q (q_assign rfl) (dk rfl) ?_
      refine vl_nil ?_
      refine hK7 _ ?_
      refine vc_region ?_
      refine vl_q (q_move rfl) (dk rfl) ?_
      refine vl_q (q_add rfl rfl (IntWalk.i64_in _ (by omega))) (dk rfl) ?_
      refine vl_q (q_assign rfl) (dk rfl) ?_
      refine vl_nil ?_
      refine ⟨_, _, ?_, ⟨i + 1, by omega, rfl, rfl⟩, (Weak.cut _ _ _ (Nat.le_of_ble_eq_true rfl) ⟨⟨rfl, rfl⟩, ⟨(hS_tm hil), rfl⟩, ⟨rfl, rfl⟩, trivial⟩ trivial rfl)⟩
      omega
    · replace h14 := lss_nof h14
      refine vl_q (q_pick_true rfl rfl) (dk rfl) ?_
      refine vl_nil ?_
      refine hK6 _ ?_
      refine vc_cond_false rfl ?_
      refine vc_exit ?_
      refine hK3 _ ?_
      refine vc_seq fun K8 hK8 => ?_
      obtain rfl : i = min bs.length 4000 := by omega
      refine vc_region ?_
      refine vl_q (q_move rfl) (dk rfl) ?_
      refine vl_q (q_move rfl) (dk rfl) ?_
      refine vl_q (q_build rfl rfl rfl rfl rfl) (dk rfl) ?_
      refine vl_box rfl (dk rfl) ?_
      refine vl_q (q_assign rfl) (dk rfl) ?_
      refine vl_nil ?_
      refine hK8 _ ?_
      refine vc_ret ?_
      refine ret_g [16] rfl (.cons (res_tmp rfl) .nil) rfl rfl (nodupB_ok rfl) ⟨by decide, trivial⟩ ⟨⟨_, rfl, NR.clo _ _ _ _⟩, trivial⟩ trivial (Nat.zero_le _)
  · replace h11 := lss_nof h11
    refine vl_q (q_move rfl) (dk rfl) ?_
    refine vl_goff rfl rfl rfl (by decide) (dk rfl) ?_
    refine vl_goff rfl rfl rfl (by decide) (dk rfl) ?_
    refine vl_q (q_pick_false rfl rfl) (dk rfl) ?_
    refine vl_nil ?_
    refine hK6 _ ?_
    refine vc_cond_false rfl ?_
    refine vc_exit ?_
    refine hK3 _ ?_
    refine vc_seq fun K9 hK9 => ?_
    obtain rfl : i = min bs.length 4000 := by omega
    refine vc_region ?_
    refine vl_q (q_move rfl) (dk rfl) ?_
    refine vl_q (q_move rfl) (dk rfl) ?_
    refine vl_q (q_build rfl rfl rfl rfl rfl) (dk rfl) ?_
    refine vl_box rfl (dk rfl) ?_
    refine vl_q (q_assign rfl) (dk rfl) ?_
    refine vl_nil ?_
    refine hK9 _ ?_
    refine vc_ret ?_
    refine ret_g [16] rfl (.cons (res_tmp rfl) .nil) rfl rfl (nodupB_ok rfl) ⟨by decide, trivial⟩ ⟨⟨_, rfl, NR.clo _ _ _ _⟩, trivial⟩ trivial (Nat.zero_le _)
end Go.Vm.S
namespace Go.Vm.S
open Go Go.Vm
set_option maxRecDepth 100000
set_option linter.unusedVariables false
set_option maxHeartbeats 4000000
theorem at8 : FnAt Pg 8 Go.Proofs.Try.f8 := ⟨by kernel_rfl, rfl, by decide⟩
theorem c_spec_DrawLong (bs : List Int) (hb : bs.length ≤ 1048576) :
    Ctr Pg ty 8 [.one (.c (.fz 1 (bs.map byteC)))] [] (Gives (.tup [sv (dlText (dNew bs hb)), iv (dlId (dNew bs hb)), iv (dlSz (dNew bs hb))]) [] []) := by
  refine ctr at8 rfl (nsK_gives rfl trivial trivial) (Nat.le_of_ble_eq_true rfl) fun w0 S0 L0 Z => ?_
  refine vc_seq fun K1 hK1 => ?_
  refine vc_region ?_
  refine vl_q (q_assign rfl) (dk rfl) ?_
  refine vl_q (q_assign rfl) (dk rfl) ?_
  refine vl_q (q_assign rfl) (dk rfl) ?_
  refine vl_nil ?_
  refine hK1 _ ?_
  refine vc_seq fun K2 hK2 => ?_
  refine vc_region ?_
  refine vl_q (q_move rfl) (dk rfl) ?_
  refine vl_callG [] (.v (.one (.ptr 16 0 0))) (c_spec_l01New _ hb) rfl rfl ⟨XOk.fzc _ _, trivial⟩ trivial rfl (by decide) ⟨fix_clo _ _, trivial⟩ trivial rfl (.inl rfl) (dk rfl) ?_
  refine vl_q (q_assign rfl) (dk rfl) ?_
  refine vl_nil ?_
  refine hK2 _ ?_
  refine vc_seq fun K3 hK3 => ?_
  refine vc_region ?_
  refine vl_q (q_move rfl) (dk rfl) ?_
  refine vl_callG [16] (vv (.string _)) (c_spec_l20Long _) rfl rfl ⟨XOk.ptr rfl (by decide) _ _, trivial⟩ ⟨⟨_, rfl, NR.clo _ _ _ _⟩, trivial⟩ rfl (by decide) trivial ⟨fix_clo _ _, trivial⟩ rfl (.inl rfl) (dk rfl) ?_
  refine vl_q (q_move rfl) (dk rfl) ?_
  refine vl_callG [16] (vv (.int .i64 _)) (c_spec_l01Below _ _) rfl rfl ⟨XOk.ptr rfl (by decide) _ _, XOk.val _, trivial⟩ ⟨⟨_, rfl, NR.clo _ _ _ _⟩, trivial⟩ rfl (by decide) trivial ⟨fix_clo _ _, trivial⟩ rfl (.inl rfl) (dk rfl) ?_
  refine vl_q (q_move rfl) (dk rfl) ?_
  refine vl_callG [16] (vv (.int .i64 _)) (c_spec_l01Below _ _) rfl rfl ⟨XOk.ptr rfl (by decide) _ _, XOk.val _, trivial⟩ ⟨⟨_, rfl, NR.clo _ _ _ _⟩, trivial⟩ rfl (by decide) trivial ⟨fix_clo _ _, trivial⟩ rfl (.inl rfl) (dk rfl) ?_
  have h8 := dBelow_lt (dBelow (dLong (dNew bs hb)).2 256).2 (n := 40) (by omega)
  refine vl_q (q_add rfl rfl (IntWalk.i64_in _ (by omega))) (dk rfl) ?_
  refine vl_q (q_assign rfl) (dk rfl) ?_
  refine vl_q (q_assign rfl) (dk rfl) ?_
  refine vl_q (q_assign rfl) (dk rfl) ?_
  refine vl_nil ?_
  refine hK3 _ ?_
  refine vc_ret ?_
  refine ret_p rfl (.cons (res_tmp rfl) (.cons (res_tmp rfl) (.cons (res_tmp rfl) .nil))) rfl ?_
  rfl
theorem at12 : FnAt Pg 12 Go.Proofs.Try.f12 := ⟨by kernel_rfl, rfl, by decide⟩
theorem c_spec_DrawPlaces (bs : List Int) (hb : bs.length ≤ 1048576) :
    Ctr Pg ty 12 [.one (.c (.fz 1 (bs.map byteC)))] [] (Gives (.v (.one (.hdr 16 0 12))) [⟨1, clo ((blS (dBelow0 bs hb) 10000 12).1.map intC)⟩] []) := by
  refine ctr at12 rfl (nsK_gives rfl ⟨nsN_map intC_noSh, trivial⟩ trivial) (Nat.le_of_ble_eq_true rfl) fun w0 S0 L0 Z => ?_
  refine vc_seq fun K1 hK1 => ?_
  refine vc_region ?_
  refine vl_q (q_assign rfl) (dk rfl) ?_
  refine vl_nil ?_
  refine hK1 _ ?_
  refine vc_seq fun K2 hK2 => ?_
  refine vc_region ?_
  refine vl_q (q_move rfl) (dk rfl) ?_
  refine vl_callG [] (.v (.one (.ptr 16 0 0))) (c_spec_l01New _ hb) rfl rfl ⟨XOk.fzc _ _, trivial⟩ trivial rfl (by decide) ⟨fix_clo _ _, trivial⟩ trivial rfl (.inl rfl) (dk rfl) ?_
  refine vl_q (q_assign rfl) (dk rfl) ?_
  refine vl_nil ?_
  refine hK2 _ ?_
  refine vc_seq fun K3 hK3 => ?_
  refine vc_region ?_
  refine vl_q (q_move rfl) (dk rfl) ?_
  refine vl_callG [16] (vv (.int .i64 _)) (c_spec_l01Byte _) rfl rfl ⟨XOk.ptr rfl (by decide) _ _, trivial⟩ ⟨⟨_, rfl, NR.clo _ _ _ _⟩, trivial⟩ rfl (by decide) trivial ⟨fix_clo _ _, trivial⟩ rfl (.inl rfl) (dk rfl) ?_
  refine vl_nil ?_
  refine hK3 _ ?_
  refine vc_seq fun K4 hK4 => ?_
  refine vc_region ?_
  refine vl_bslice rfl rfl rfl rfl rfl rfl trivial (by decide) (by decide) (dk rfl) ?_
  refine vl_q (q_assign rfl) (dk rfl) ?_
  refine vl_nil ?_
  refine hK4 _ ?_
  refine vc_seq fun K5 hK5 => ?_
  refine vc_seq fun K6 hK6 => ?_
  refine vc_region ?_
  refine vl_q (q_assign rfl) (dk rfl) ?_
  refine vl_nil ?_
  refine hK6 _ ?_
  refine vc_block ?_
  refine vc_loop (fun mz st => ∃ i : Nat, (i ≤ 12) ∧ mz = 12 - i ∧ st = mkSt [(3, .v (.one (.ptr 16 0 0))), (4, .v (.one (.hdr 17 0 i))), (5, .v (iv i))] [(16, drN (blS (dBelow0 bs hb) 10000 i).2), (17, ⟨1, clo ((blS (dBelow0 bs hb) 10000 i).1.map intC)⟩)] 18) ⟨_, _, ⟨0, by omega, rfl, rfl⟩, (Weak.cut _ _ _ (Nat.le_of_ble_eq_true rfl) ⟨⟨rfl, rfl⟩, ⟨rfl, rfl⟩, ⟨rfl, rfl⟩, trivial⟩ ⟨⟨Nat.le_of_ble_eq_true rfl, rfl, belN_clo _ _ _⟩, ⟨Nat.le_of_ble_eq_true rfl, rfl, belN_clo _ _ _⟩, trivial⟩ rfl)⟩ (fun mz st hI => ?_)
  obtain ⟨i, hi, hmz, rfl⟩ := hI
  refine vc_seq fun K7 hK7 => ?_
  refine vc_seq fun K8 hK8 => ?_
  refine vc_region ?_
  refine vl_q (q_move rfl) (dk rfl) ?_
  refine vl_two (x := fun b => vv (.bool b)) _ (q_cmp rfl rfl rfl rfl) (dk rfl) (fun h12 => ?_) (fun h12 => ?_)
  · replace h12 := lss_of h12
    refine vl_nil ?_
    refine hK8 _ ?_
    refine vc_cond_true rfl ?_
    refine vc_skip ?_
    refine hK7 _ ?_
    refine vc_seq fun K9 hK9 => ?_
    refine vc_block ?_
    refine vc_region ?_
    refine vl_q (q_move rfl) (dk rfl) ?_
    refine vl_q (q_move rfl) (dk rfl) ?_
    refine vl_callG [16] (vv (.int .i64 _)) (c_spec_l01Below _ _) rfl rfl ⟨XOk.ptr rfl (by decide) _ _, XOk.val _, trivial⟩ ⟨⟨_, rfl, NR.clo _ _ _ _⟩, trivial⟩ rfl (by decide) trivial ⟨fix_clo _ _, trivial⟩ rfl (.inl rfl) (dk rfl) ?_
    refine vl_bslice rfl rfl rfl rfl rfl rfl ⟨rfl, trivial⟩ (by decide) (by decide) (dk rfl) ?_
    refine vl_append rfl rfl rfl rfl (fun _ h => TypeDesc.noConfusion h) rfl rfl rfl (by simp [clo, blS_len]) (src_row rfl rfl rfl rfl) (by show (_ + 1) * 8 ≤ _; omega) (by show _ + 1 < _; omega) (dk rfl) ?_
    refine vl_q (q_assign rfl) (dk rfl) ?_
    refine vl_nil ?_
    refine hK9 _ ?_
    refine vc_region ?_
    refine vl_q (q_move rfl) (dk rfl) ?_
    refine vl_q (q_add rfl rfl (IntWalk.i64_in _ (by omega))) (dk rfl) ?_
    refine vl_q (q_assign rfl) (dk rfl) ?_
    refine vl_nil ?_
    refine ⟨_, _, ?_, ⟨i + 1, by omega, rfl, rfl⟩, (Weak.to (fun n => bif Nat.beq n 17 then 19 else n) _ _ _ (Nat.le_of_ble_eq_true rfl) (fun n hn => sgm_lo hn (Nat.le_of_ble_eq_true rfl) (rfl)) ⟨⟨rfl, rfl⟩, ⟨rfl, rfl⟩, ⟨rfl, rfl⟩, trivial⟩ ⟨⟨Nat.le_of_ble_eq_true rfl, _, rfl, NR.clo _ _ _ _⟩, ⟨Nat.le_of_ble_eq_true rfl, _, some_node (blS_next _ _ i), NR.clo _ _ _ _⟩, trivial⟩ (nodupB_ok rfl))⟩
    omega
  · replace h12 := lss_nof h12
    refine vl_nil ?_
    refine hK8 _ ?_
    refine vc_cond_false rfl ?_
    refine vc_exit ?_
    refine hK5 _ ?_
    refine vc_seq fun K10 hK10 => ?_
    obtain rfl : i = 12 := by omega
    refine vc_region ?_
    refine vl_q (q_move rfl) (dk rfl) ?_
    refine vl_q (q_assign rfl) (dk rfl) ?_
    refine vl_nil ?_
    refine hK10 _ ?_
    refine vc_ret ?_
    refine ret_g [17] rfl (.cons (res_tmp rfl) .nil) rfl rfl (nodupB_ok rfl) ⟨by decide, trivial⟩ ⟨⟨_, rfl, NR.clo _ _ _ _⟩, trivial⟩ trivial (Nat.zero_le _)
end Go.Vm.S
namespace Go.Vm.S
open Go Go.Vm
set_option maxRecDepth 100000
set_option linter.unusedVariables false
set_option maxHeartbeats 4000000
theorem at3 : FnAt Pg 3 Go.Proofs.Try.f3 := ⟨by kernel_rfl, rfl, by decide⟩
theorem c_laws_FnPieces (bs : List Int) :
    Ctr Pg ty 3 [.one (.c (.fz 1 (bs.map byteC)))] [] (Gives (vv (.bool true)) [] []) := by
  refine ctr at3 rfl (nsK_gives rfl trivial trivial) (Nat.le_of_ble_eq_true rfl) fun w0 S0 L0 Z => ?_
  refine vc_seq fun K1 hK1 => ?_
  refine vc_region ?_
  refine vl_q (q_assign rfl) (dk rfl) ?_
  refine vl_nil ?_
  refine hK1 _ ?_
  refine vc_seq fun K2 hK2 => ?_
  refine vc_seq fun K3 hK3 => ?_
  refine vc_region ?_
  refine vl_q (q_move rfl) (dk rfl) ?_
  refine vl_callP (c_laws_big _) rfl rfl ⟨XOk.fzc _ _, trivial⟩ rfl (.inl rfl) (dk rfl) ?_
  refine vl_bool 23 rfl (fun h23 => ?_) (fun h23 => ?_)
  · refine vl_nil ?_
    refine hK3 _ ?_
    refine vc_cond_true rfl ?_
    refine vc_seq fun K4 hK4 => ?_
    refine vc_region ?_
    refine vl_q (q_assign rfl) (dk rfl) ?_
    refine vl_nil ?_
    refine hK4 _ ?_
    refine vc_ret ?_
    refine ret_p rfl (.cons (res_tmp rfl) .nil) rfl ?_
    rfl
  · have hb : bs.length ≤ 1048576 := by have := of_decide_eq_false h23; omega
    refine vl_nil ?_
    refine hK3 _ ?_
    refine vc_cond_false rfl ?_
    refine vc_skip ?_
    refine hK2 _ ?_
    refine vc_seq fun K5 hK5 => ?_
    refine vc_region ?_
    refine vl_q (q_move rfl) (dk rfl) ?_
    refine vl_callP (c_spec_DrawLong _ hb) rfl rfl ⟨XOk.fzc _ _, trivial⟩ rfl (.inl rfl) (dk rfl) ?_
    have hw := dlText_le (dNew bs hb)
    have hid := dlId_in (dNew bs hb)
    obtain ⟨z, hz, hz1, hz2⟩ := dlSz_in (dNew bs hb)
    rw [hz]
    generalize dlText (dNew bs hb) = w at *
    generalize dlId (dNew bs hb) = id at *
    have hn := nP_le' (w := w) (sz := z) (by omega) hz1
    have hn1 := nP_pos w z
    refine vl_q (q_move rfl) (dk rfl) ?_
    refine vl_q (q_extract rfl rfl) (dk rfl) ?_
    refine vl_q (q_extract rfl rfl) (dk rfl) ?_
    refine vl_q (q_extract rfl rfl) (dk rfl) ?_
    refine vl_q (q_assign rfl) (dk rfl) ?_
    refine vl_q (q_assign rfl) (dk rfl) ?_
    refine vl_q (q_assign rfl) (dk rfl) ?_
    refine vl_nil ?_
    refine hK5 _ ?_
    refine vc_seq fun K6 hK6 => ?_
    refine vc_region ?_
    refine vl_q (q_move rfl) (dk rfl) ?_
    refine vl_q (q_move rfl) (dk rfl) ?_
    refine vl_q (q_move rfl) (dk rfl) ?_
    refine vl_callG [] (.tup [.one (.hdr 16 0 _), bv true]) (c_impl_Split _ _ _ (by omega) (by omega) (by omega)) rfl rfl ⟨XOk.val _, XOk.val _, XOk.val _, trivial⟩ trivial rfl (by decide) ⟨fix_clo _ _, trivial⟩ trivial rfl (.inl rfl) (dk rfl) ?_
    refine vl_q (q_move rfl) (dk rfl) ?_
    refine vl_q (q_extract rfl rfl) (dk rfl) ?_
    refine vl_q (q_extract rfl rfl) (dk rfl) ?_
    refine vl_q (q_assign rfl) (dk rfl) ?_
    refine vl_q (q_assign rfl) (dk rfl) ?_
    refine vl_nil ?_
    refine hK6 _ ?_
    refine vc_seq fun K7 hK7 => ?_
    refine vc_region ?_
    refine vl_q (q_move rfl) (dk rfl) ?_
    refine vl_q (q_move rfl) (dk rfl) ?_
    refine vl_q (q_move rfl) (dk rfl) ?_
    refine vl_callG [] (.tup [.one (.hdr 17 0 _), bv true]) (c_spec_Split _ _ _ (by omega) (by omega) (by omega)) rfl rfl ⟨XOk.val _, XOk.val _, XOk.val _, trivial⟩ trivial rfl (by decide) ⟨fix_clo _ _, trivial⟩ trivial rfl (.inl rfl) (dk rfl) ?_
    refine vl_q (q_move rfl) (dk rfl) ?_
    refine vl_q (q_extract rfl rfl) (dk rfl) ?_
    refine vl_q (q_extract rfl rfl) (dk rfl) ?_
    refine vl_q (q_assign rfl) (dk rfl) ?_
    refine vl_q (q_assign rfl) (dk rfl) ?_
    refine vl_nil ?_
    refine hK7 _ ?_
    refine vc_seq fun K8 hK8 => ?_
    refine vc_seq fun K9 hK9 => ?_
    refine vc_region ?_
    refine vl_q (q_move rfl) (dk rfl) ?_
    refine vl_q (q_move rfl) (dk rfl) ?_
    refine vl_two (x := fun b => vv (.bool b)) _ (q_cmpB rfl rfl rfl rfl (.inr rfl) rfl) (dk rfl) (fun h46 => ?_) (fun h46 => ?_)
    · replace h46 := neqB_of h46
      exact (h46 rfl).elim
    · replace h46 := neqB_nof h46
      refine vl_q (q_move rfl) (dk rfl) ?_
      refine vl_guard_on rfl rfl rfl ?_
      refine vl_q (q_move rfl) (dk rfl) ?_
      refine vl_guard_on rfl rfl rfl ?_
      refine vl_q (q_move rfl) (dk rfl) ?_
      refine vl_guard_on rfl rfl rfl ?_
      refine vl_callP (c_sameTexts_self (pcs id w z (nP w z))) rfl rfl ⟨(XOk.snapH rfl (by simp) (by simp [pcs_len]) (map_wid fun _ => rfl) (strsC_shr _)), (XOk.snapH rfl (by simp) (by simp [pcs_len]) (map_wid fun _ => rfl) (strsC_shr _)), trivial⟩ rfl (.inl rfl) (dk rfl) ?_
      refine vl_guard_on rfl rfl rfl ?_
      refine vl_q (q_not rfl) (dk rfl) ?_
      refine vl_q (q_pick_false rfl rfl) (dk rfl) ?_
      refine vl_nil ?_
      refine hK9 _ ?_
      refine vc_cond_false rfl ?_
      refine vc_skip ?_
      refine hK8 _ ?_
      refine vc_seq fun K10 hK10 => ?_
      refine vc_seq fun K11 hK11 => ?_
      refine vc_region ?_
      refine vl_q (q_move rfl) (dk rfl) ?_
      refine vl_q (q_not rfl) (dk rfl) ?_
      refine vl_nil ?_
      refine hK11 _ ?_
      refine vc_cond_false rfl ?_
      refine vc_skip ?_
      refine hK10 _ ?_
      refine vc_seq fun K12 hK12 => ?_
      refine vc_region ?_
      refine vl_q (q_move rfl) (dk rfl) ?_
      refine vl_callG [] (.v (.one (.hdr 18 0 12))) (c_spec_DrawPlaces _ hb) rfl rfl ⟨XOk.fzc _ _, trivial⟩ trivial rfl (by decide) ⟨fix_clo _ _, trivial⟩ trivial rfl (.inl rfl) (dk rfl) ?_
      obtain ⟨off, rest, hoff, hoff2⟩ := places_first (dBelow0 bs hb)
      refine vl_q (q_indexAddr rfl rfl rfl rfl rfl rfl rfl (by omega) (by omega)) (dk rfl) ?_
      refine vl_load rfl rfl rfl (first_row hoff) rfl rfl rfl (by decide) (dk rfl) ?_
      refine vl_q (q_assign rfl) (dk rfl) ?_
      refine vl_nil ?_
      refine hK12 _ ?_
      refine vc_seq fun K13 hK13 => ?_
      refine vc_region ?_
      refine vl_q (q_build rfl rfl rfl rfl rfl) (dk rfl) ?_
      refine vl_alloc rfl (dk rfl) ?_
      refine vl_store rfl rfl rfl rfl rfl rfl (Nat.le_of_ble_eq_true rfl) trivial ?_
      refine vl_nil ?_
      refine hK13 _ ?_
      refine vc_seq fun K14 hK14 => ?_
      refine vc_seq fun K15 hK15 => ?_
      refine vc_region ?_
      refine vl_q (q_assign rfl) (dk rfl) ?_
      refine vl_nil ?_
      refine hK15 _ ?_
      refine vc_block ?_
      refine vc_loop (fun mz st => ∃ i : Nat, (i ≤ nP w z) ∧ mz = nP w z - i ∧ st = mkSt [(3, .v (sv w)), (4, .v (iv id)), (6, .v (.one (.hdr 16 0 (nP w z)))), (10, .v (iv off)), (11, .v (.one (.ptr 19 0 0))), (12, .v (iv i))] [(16, ⟨1, clo ((pcs id w z (nP w z)).map strC)⟩), (19, ⟨1, [[.c (.val (.slice none 0 0))]]⟩)] 20) ⟨_, _, ⟨0, by omega, rfl, rfl⟩, (Weak.cut _ _ _ (Nat.le_of_ble_eq_true rfl) ⟨⟨rfl, rfl⟩, ⟨rfl, rfl⟩, ⟨rfl, rfl⟩, ⟨rfl, rfl⟩, ⟨rfl, rfl⟩, ⟨rfl, rfl⟩, trivial⟩ ⟨⟨Nat.le_of_ble_eq_true rfl, rfl, belN_clo _ _ _⟩, ⟨Nat.le_of_ble_eq_true rfl, rfl, belN_all rfl⟩, trivial⟩ rfl)⟩ (fun mz st hI => ?_)
      obtain ⟨i, hi, hmz, rfl⟩ := hI
      refine vc_seq fun K16 hK16 => ?_
      refine vc_seq fun K17 hK17 => ?_
      refine vc_region ?_
      refine vl_q (q_move rfl) (dk rfl) ?_
      refine vl_q (q_move rfl) (dk rfl) ?_
      refine vl_q (q_len_hdr rfl rfl rfl) (dk rfl) ?_
      refine vl_two (x := fun b => vv (.bool b)) _ (q_cmp rfl rfl rfl rfl) (dk rfl) (fun h66 => ?_) (fun h66 => ?_)
      · replace h66 := lss_of h66
        refine vl_nil ?_
        refine hK17 _ ?_
        refine vc_cond_true rfl ?_
        refine vc_skip ?_
        refine hK16 _ ?_
        refine vc_seq fun K18 hK18 => ?_
        refine vc_block ?_
        refine vc_seq fun K19 hK19 => ?_
        refine vc_region ?_
        refine vl_q (q_move rfl) (dk rfl) ?_
        refine vl_q (q_move rfl) (dk rfl) ?_
        refine vl_q (q_indexAddr rfl rfl rfl rfl rfl rfl rfl (by omega) (by omega)) (dk rfl) ?_
        refine vl_load rfl rfl rfl (pcs_at (by omega)) rfl rfl rfl (by decide) (dk rfl) ?_
        refine vl_callP (c_ReadPart_t (piece id w z (nP w z) i) (piece_ok (by omega) hn)) rfl rfl ⟨XOk.val _, trivial⟩ rfl (.inl rfl) (dk rfl) ?_
        refine vl_q (q_move rfl) (dk rfl) ?_
        refine vl_q (q_extract rfl rfl) (dk rfl) ?_
        refine vl_q (q_extract rfl rfl) (dk rfl) ?_
        refine vl_q (q_extract rfl rfl) (dk rfl) ?_
        refine vl_q (q_extract rfl rfl) (dk rfl) ?_
        refine vl_q (q_extract rfl rfl) (dk rfl) ?_
        refine vl_q (q_assign rfl) (dk rfl) ?_
        refine vl_q (q_assign rfl) (dk rfl) ?_
        refine vl_q (q_assign rfl) (dk rfl) ?_
        refine vl_q (q_assign rfl) (dk rfl) ?_
        refine vl_q (q_assign rfl) (dk rfl) ?_
        refine vl_nil ?_
        refine hK19 _ ?_
        refine vc_seq fun K20 hK20 => ?_
        refine vc_region ?_
        refine vl_q (q_move rfl) (dk rfl) ?_
        refine vl_q (q_not rfl) (dk rfl) ?_
        refine vl_q (q_move rfl) (dk rfl) ?_
        refine vl_guard_on rfl rfl rfl ?_
        refine vl_q (q_move rfl) (dk rfl) ?_
        refine vl_guard_on rfl rfl rfl ?_
        refine vl_q (q_move rfl) (dk rfl) ?_
        refine vl_guard_on rfl rfl rfl ?_
        refine vl_two (x := fun b => vv (.bool b)) _ (q_cmp rfl rfl rfl rfl) (dk rfl) (fun h85 => ?_) (fun h85 => ?_)
        · replace h85 := neq_of h85
          exact absurd (piece_0 hid w z _ i) h85
        · replace h85 := neq_nof h85
          refine vl_q (q_pick_false rfl rfl) (dk rfl) ?_
          refine vl_q (q_move rfl) (dk rfl) ?_
          refine vl_guard_on rfl rfl rfl ?_
          refine vl_q (q_move rfl) (dk rfl) ?_
          refine vl_guard_on rfl rfl rfl ?_
          refine vl_q (q_move rfl) (dk rfl) ?_
          refine vl_guard_on rfl rfl rfl ?_
          refine vl_two (x := fun b => vv (.bool b)) _ (q_cmp rfl rfl rfl rfl) (dk rfl) (fun h90 => ?_) (fun h90 => ?_)
          · replace h90 := neq_of h90
            have := piece_1 id w z (nP w z) (j := i) (by omega)
            omega
          · replace h90 := neq_nof h90
            refine vl_q (q_pick_false rfl rfl) (dk rfl) ?_
            refine vl_q (q_move rfl) (dk rfl) ?_
            refine vl_guard_on rfl rfl rfl ?_
            refine vl_q (q_move rfl) (dk rfl) ?_
            refine vl_guard_on rfl rfl rfl ?_
            refine vl_q (q_move rfl) (dk rfl) ?_
            refine vl_guard_on rfl rfl rfl ?_
            refine vl_q (q_len_hdr rfl rfl rfl) (dk rfl) ?_
            refine vl_guard_on rfl rfl rfl ?_
            refine vl_two (x := fun b => vv (.bool b)) _ (q_cmp rfl rfl rfl rfl) (dk rfl) (fun h96 => ?_) (fun h96 => ?_)
            · replace h96 := neq_of h96
              have := piece_2 id w z (n := nP w z) i (by omega)
              omega
            · replace h96 := neq_nof h96
              refine vl_q (q_pick_false rfl rfl) (dk rfl) ?_
              refine vl_nil ?_
              refine hK20 _ ?_
              refine vc_cond_false rfl ?_
              refine vc_skip ?_
              refine hK18 _ ?_
              refine vc_region ?_
              refine vl_q (q_move rfl) (dk rfl) ?_
              refine vl_q (q_add rfl rfl (IntWalk.i64_in _ (by omega))) (dk rfl) ?_
              refine vl_q (q_assign rfl) (dk rfl) ?_
              refine vl_nil ?_
              refine ⟨_, _, ?_, ⟨i + 1, by omega, rfl, rfl⟩, (Weak.cut _ _ _ (Nat.le_of_ble_eq_true rfl) ⟨⟨rfl, rfl⟩, ⟨rfl, rfl⟩, ⟨rfl, rfl⟩, ⟨rfl, rfl⟩, ⟨rfl, rfl⟩, ⟨rfl, rfl⟩, trivial⟩ ⟨⟨Nat.le_of_ble_eq_true rfl, rfl, belN_clo _ _ _⟩, ⟨Nat.le_of_ble_eq_true rfl, rfl, belN_all rfl⟩, trivial⟩ rfl)⟩
              omega
      · replace h66 := lss_nof h66
        refine vl_nil ?_
        refine hK17 _ ?_
        refine vc_cond_false rfl ?_
        refine vc_exit ?_
        refine hK14 _ ?_
        refine vc_seq fun K21 hK21 => ?_
        refine vc_seq fun K22 hK22 => ?_
        refine vc_region ?_
        refine vl_q (q_assign rfl) (dk rfl) ?_
        refine vl_nil ?_
        refine hK22 _ ?_
        refine vc_block ?_
        refine vc_weak (Weak.tell1 (m := 19) (i := 0) (j := 0) rfl rfl rfl (Imp.nil 6) (one_wid rfl)) ?_
        refine vc_loop (fun mz st => ∃ i : Nat, (i ≤ nP w z) ∧ mz = nP w z - i ∧ st = mkSt [(3, .v (sv w)), (4, .v (iv id)), (6, .v (.one (.hdr 16 0 (nP w z)))), (10, .v (iv off)), (11, .v (.one (.ptr 19 0 0))), (18, .v (iv i))] [(16, ⟨1, clo ((pcs id w z (nP w z)).map strC)⟩), (19, ⟨1, [[.c (.own 6 ((shAt id w z (nP w z) off i).map heldO))]]⟩)] 20) ⟨_, _, ⟨0, by omega, rfl, rfl⟩, (Weak.cut _ _ _ (Nat.le_of_ble_eq_true rfl) ⟨⟨rfl, rfl⟩, ⟨rfl, rfl⟩, ⟨rfl, rfl⟩, ⟨rfl, rfl⟩, ⟨rfl, rfl⟩, ⟨rfl, rfl⟩, trivial⟩ ⟨⟨Nat.le_of_ble_eq_true rfl, rfl, belN_clo _ _ _⟩, ⟨Nat.le_of_ble_eq_true rfl, some_node (by rw [shAt_zero]; rfl), belN_all rfl⟩, trivial⟩ rfl)⟩ (fun mz st hI => ?_)
        obtain ⟨i, hi, hmz, rfl⟩ := hI
        refine vc_seq fun K23 hK23 => ?_
        refine vc_seq fun K24 hK24 => ?_
        refine vc_region ?_
        refine vl_q (q_move rfl) (dk rfl) ?_
        refine vl_q (q_move rfl) (dk rfl) ?_
        refine vl_q (q_len_hdr rfl rfl rfl) (dk rfl) ?_
        refine vl_two (x := fun b => vv (.bool b)) _ (q_cmp rfl rfl rfl rfl) (dk rfl) (fun h101 => ?_) (fun h101 => ?_)
        · replace h101 := lss_of h101
          refine vl_nil ?_
          refine hK24 _ ?_
          refine vc_cond_true rfl ?_
          refine vc_skip ?_
          refine hK23 _ ?_
          refine vc_seq fun K25 hK25 => ?_
          refine vc_block ?_
          refine vc_seq fun K26 hK26 => ?_
          have hil : i < nP w z := by omega
          have hj := Nat.mod_lt (i + off) (by omega : 0 < nP w z)
          refine vc_weak (Weak.open1 (nm := 19) (i := 0) (j := 0) rfl rfl rfl) ?_
          simp only [List.length_map]
          refine vc_region_any mixed (fun n => Nat.beq n 16 || Nat.beq n 19) true rfl rfl (fun _ hU27 => hU27) fun w1 S1 L1 Z1 H1 => ?_
          refine va_q 0 rfl (by kernel_rfl) (by kernel_rfl) (by kernel_rfl) (q_load rfl rfl rfl rfl rfl rfl rfl (by decide)) (dk rfl) ?_
          refine va_q 1 rfl (by kernel_rfl) (by kernel_rfl) (by kernel_rfl) (q_move rfl) (dk rfl) ?_
          refine va_q 2 rfl (by kernel_rfl) (by kernel_rfl) (by kernel_rfl) (q_move rfl) (dk rfl) ?_
          refine va_q 3 rfl (by kernel_rfl) (by kernel_rfl) (by kernel_rfl) (q_move rfl) (dk rfl) ?_
          refine va_q 4 rfl (by kernel_rfl) (by kernel_rfl) (by kernel_rfl) (q_add rfl rfl (IntWalk.i64_in _ (by omega))) (dk rfl) ?_
          refine va_q 5 rfl (by kernel_rfl) (by kernel_rfl) (by kernel_rfl) (q_move rfl) (dk rfl) ?_
          refine va_q 6 rfl (by kernel_rfl) (by kernel_rfl) (by kernel_rfl) (q_len_hdr rfl rfl rfl) (dk rfl) ?_
          refine va_q 7 rfl (by kernel_rfl) (by kernel_rfl) (by kernel_rfl) (q_rem rfl rfl (by first | decide | omega) rem_nat) (dk rfl) ?_
          refine va_q 8 rfl (by kernel_rfl) (by kernel_rfl) (by kernel_rfl) (q_indexAddr rfl rfl rfl rfl rfl rfl rfl (by omega) (by omega)) (dk rfl) ?_
          refine va_q 9 rfl (by kernel_rfl) (by kernel_rfl) (by kernel_rfl) (q_load rfl rfl rfl (pcs_at hj) rfl rfl rfl (by decide)) (dk rfl) ?_
          refine va_all [10, 15] (by kernel_rfl) (by simp) ⟨⟨_, rfl, ?_⟩, ⟨_, rfl, ?_⟩, trivial⟩
          · rcases Nat.lt_or_ge (i + 1) (nP w z) with he | he
            · refine vl_callG [] (_) (c_AddStep_f (off := off) hid (by omega) (by omega) he) rfl rfl ⟨VOk.agg ⟨XOk.snapH rfl (by simp) (by simp [markHs_len]) (map_wid heldO_len) (heldsO_shr _), trivial⟩, XOk.val _, XOk.val _, XOk.val _, trivial⟩ trivial rfl (by decide) ⟨fix_clo _ _, trivial⟩ trivial rfl (.inr ⟨rfl, ⟨nzN_map heldO_noZ, trivial⟩, trivial⟩) (dk rfl) ?_
              refine vl_nil ?_
              refine va_q 11 rfl (by kernel_rfl) (by kernel_rfl) (by kernel_rfl) (q_move rfl) (dk rfl) ?_
              refine va_q 12 rfl (by kernel_rfl) (by kernel_rfl) (by kernel_rfl) (q_extract rfl rfl) (dk rfl) ?_
              refine va_q 13 rfl (by kernel_rfl) (by kernel_rfl) (by kernel_rfl) (q_extract rfl rfl) (dk rfl) ?_
              refine va_q 14 rfl (by kernel_rfl) (by kernel_rfl) (by kernel_rfl) (q_extract rfl rfl) (dk rfl) ?_
              refine va_all [15] (by kernel_rfl) (by simp) ⟨⟨_, rfl, ?_⟩, trivial⟩
              refine vl_alloc rfl (dk rfl) ?_
              refine vl_nil ?_
              refine va_all [16] (by kernel_rfl) (by simp) ⟨⟨_, rfl, ?_⟩, trivial⟩
              refine vl_store rfl rfl rfl rfl rfl rfl (Nat.le_of_ble_eq_true rfl) trivial ?_
              refine vl_nil ?_
              refine va_q 17 rfl (by kernel_rfl) (by kernel_rfl) (by kernel_rfl) (q_assign rfl) (dk rfl) ?_
              refine va_q 18 rfl (by kernel_rfl) (by kernel_rfl) (by kernel_rfl) (q_assign rfl) (dk rfl) ?_
              refine va_done (by kernel_rfl) ?_
              refine hK26 _ ?_
              refine vc_seq fun K28 hK28 => ?_
              refine vc_seq fun K29 hK29 => ?_
              refine vc_region ?_
              refine vl_q (q_move rfl) (dk rfl) ?_
              refine vl_q (q_move rfl) (dk rfl) ?_
              refine vl_q (q_add rfl rfl (IntWalk.i64_in _ (by omega))) (dk rfl) ?_
              refine vl_q (q_move rfl) (dk rfl) ?_
              refine vl_q (q_len_hdr rfl rfl rfl) (dk rfl) ?_
              refine vl_q (q_cmp rfl rfl rfl (decide_eq_false (by omega))) (dk rfl) ?_
              refine vl_two (x := fun b => vv (.bool b)) _ (q_cmpB rfl rfl rfl rfl (.inr rfl) rfl) (dk rfl) (fun h125 => ?_) (fun h125 => ?_)
              · replace h125 := neqB_of h125
                exact (h125 rfl).elim
              · replace h125 := neqB_nof h125
                refine vl_q (q_move rfl) (dk rfl) ?_
                refine vl_guard_on rfl rfl rfl ?_
                refine vl_q (q_move rfl) (dk rfl) ?_
                refine vl_guard_on rfl rfl rfl ?_
                refine vl_q (q_move rfl) (dk rfl) ?_
                refine vl_goff rfl rfl rfl (by decide) (dk rfl) ?_
                refine vl_goff rfl rfl rfl (by decide) (dk rfl) ?_
                refine vl_goff rfl rfl rfl (by decide) (dk rfl) ?_
                refine vl_guard_on rfl rfl rfl ?_
                refine vl_q (q_pick_false rfl rfl) (dk rfl) ?_
                refine vl_q (q_pick_false rfl rfl) (dk rfl) ?_
                refine vl_q (q_move rfl) (dk rfl) ?_
                refine vl_guard_on rfl rfl rfl ?_
                refine vl_load rfl rfl rfl rfl rfl rfl rfl (by decide) (dk rfl) ?_
                refine vl_guard_on rfl rfl rfl ?_
                refine vl_callP (c_ShelfOk_t (shAt id w z (nP w z) off (i + 1)) (step_good (off := off) hid (by omega) (by omega) (i + 1) (by omega))) rfl rfl ⟨VOk.agg ⟨XOk.snapH rfl (by simp) (by simp [markHs_len]) (map_wid heldO_len) (heldsO_shr _), trivial⟩, trivial⟩ rfl (.inl rfl) (dk rfl) ?_
                refine vl_guard_on rfl rfl rfl ?_
                refine vl_q (q_not rfl) (dk rfl) ?_
                refine vl_q (q_pick_false rfl rfl) (dk rfl) ?_
                refine vl_nil ?_
                refine hK29 _ ?_
                refine vc_cond_false rfl ?_
                refine vc_skip ?_
                refine hK28 _ ?_
                refine vc_region ?_
                refine vl_load rfl rfl rfl rfl rfl rfl rfl (by decide) (dk rfl) ?_
                refine vl_store rfl rfl rfl rfl rfl rfl (Nat.le_of_ble_eq_true rfl) trivial ?_
                refine vl_nil ?_
                refine hK25 _ ?_
                refine vc_weak (Weak.close1 (nm := 19) (i := 0) (j := 0) (m := 21) (es := (shAt id w z (nP w z) off (i + 1)).map heldO) rfl rfl rfl rfl (by simp) (by decide)) ?_
                refine vc_region ?_
                refine vl_q (q_move rfl) (dk rfl) ?_
                refine vl_q (q_add rfl rfl (IntWalk.i64_in _ (by omega))) (dk rfl) ?_
                refine vl_q (q_assign rfl) (dk rfl) ?_
                refine vl_nil ?_
                refine ⟨_, _, ?_, ⟨i + 1, by omega, rfl, rfl⟩, (Weak.cut _ _ _ (Nat.le_of_ble_eq_true rfl) ⟨⟨rfl, rfl⟩, ⟨rfl, rfl⟩, ⟨rfl, rfl⟩, ⟨rfl, rfl⟩, ⟨rfl, rfl⟩, ⟨rfl, rfl⟩, trivial⟩ ⟨⟨Nat.le_of_ble_eq_true rfl, rfl, belN_clo _ _ _⟩, ⟨Nat.le_of_ble_eq_true rfl, rfl, belN_all rfl⟩, trivial⟩ rfl)⟩
                omega
            · refine vl_callG [] (_) (c_AddStep_t (off := off) hid (by omega) (by omega) (by omega)) rfl rfl ⟨VOk.agg ⟨XOk.snapH rfl (by simp) (by simp [markHs_len]) (map_wid heldO_len) (heldsO_shr _), trivial⟩, XOk.val _, XOk.val _, XOk.val _, trivial⟩ trivial rfl (by decide) ⟨fix_clo _ _, trivial⟩ trivial rfl (.inr ⟨rfl, ⟨nzN_map heldO_noZ, trivial⟩, trivial⟩) (dk rfl) ?_
              refine vl_nil ?_
              refine va_q 11 rfl (by kernel_rfl) (by kernel_rfl) (by kernel_rfl) (q_move rfl) (dk rfl) ?_
              refine va_q 12 rfl (by kernel_rfl) (by kernel_rfl) (by kernel_rfl) (q_extract rfl rfl) (dk rfl) ?_
              refine va_q 13 rfl (by kernel_rfl) (by kernel_rfl) (by kernel_rfl) (q_extract rfl rfl) (dk rfl) ?_
              refine va_q 14 rfl (by kernel_rfl) (by kernel_rfl) (by kernel_rfl) (q_extract rfl rfl) (dk rfl) ?_
              refine va_all [15] (by kernel_rfl) (by simp) ⟨⟨_, rfl, ?_⟩, trivial⟩
              refine vl_alloc rfl (dk rfl) ?_
              refine vl_nil ?_
              refine va_all [16] (by kernel_rfl) (by simp) ⟨⟨_, rfl, ?_⟩, trivial⟩
              refine vl_store rfl rfl rfl rfl rfl rfl (Nat.le_of_ble_eq_true rfl) trivial ?_
              refine vl_nil ?_
              refine va_q 17 rfl (by kernel_rfl) (by kernel_rfl) (by kernel_rfl) (q_assign rfl) (dk rfl) ?_
              refine va_q 18 rfl (by kernel_rfl) (by kernel_rfl) (by kernel_rfl) (q_assign rfl) (dk rfl) ?_
              refine va_done (by kernel_rfl) ?_
              refine hK26 _ ?_
              refine vc_seq fun K30 hK30 => ?_
              refine vc_seq fun K31 hK31 => ?_
              refine vc_region ?_
              refine vl_q (q_move rfl) (dk rfl) ?_
              refine vl_q (q_move rfl) (dk rfl) ?_
              refine vl_q (q_add rfl rfl (IntWalk.i64_in _ (by omega))) (dk rfl) ?_
              refine vl_q (q_move rfl) (dk rfl) ?_
              refine vl_q (q_len_hdr rfl rfl rfl) (dk rfl) ?_
              refine vl_q (q_cmp rfl rfl rfl (decide_eq_true (by omega))) (dk rfl) ?_
              refine vl_two (x := fun b => vv (.bool b)) _ (q_cmpB rfl rfl rfl rfl (.inr rfl) rfl) (dk rfl) (fun h125 => ?_) (fun h125 => ?_)
              · replace h125 := neqB_of h125
                exact (h125 rfl).elim
              · replace h125 := neqB_nof h125
                refine vl_q (q_move rfl) (dk rfl) ?_
                refine vl_guard_on rfl rfl rfl ?_
                refine vl_q (q_move rfl) (dk rfl) ?_
                refine vl_guard_on rfl rfl rfl ?_
                refine vl_q (q_move rfl) (dk rfl) ?_
                refine vl_guard_on rfl rfl rfl ?_
                refine vl_q (q_move rfl) (dk rfl) ?_
                refine vl_guard_on rfl rfl rfl ?_
                refine vl_q (q_move rfl) (dk rfl) ?_
                refine vl_guard_on rfl rfl rfl ?_
                refine vl_two (x := fun b => vv (.bool b)) _ (q_cmpS rfl rfl (.inr rfl) rfl) (dk rfl) (fun h131 => ?_) (fun h131 => ?_)
                · replace h131 := neqS_of h131
                  exact (h131 rfl).elim
                · replace h131 := neqS_nof h131
                  refine vl_guard_on rfl rfl rfl ?_
                  refine vl_q (q_pick_true rfl rfl) (dk rfl) ?_
                  refine vl_q (q_pick_false rfl rfl) (dk rfl) ?_
                  refine vl_q (q_move rfl) (dk rfl) ?_
                  refine vl_guard_on rfl rfl rfl ?_
                  refine vl_load rfl rfl rfl rfl rfl rfl rfl (by decide) (dk rfl) ?_
                  refine vl_guard_on rfl rfl rfl ?_
                  refine vl_callP (c_ShelfOk_t (shAt id w z (nP w z) off (i + 1)) (step_good (off := off) hid (by omega) (by omega) (i + 1) (by omega))) rfl rfl ⟨VOk.agg ⟨XOk.snapH rfl (by simp) (by simp [markHs_len]) (map_wid heldO_len) (heldsO_shr _), trivial⟩, trivial⟩ rfl (.inl rfl) (dk rfl) ?_
                  refine vl_guard_on rfl rfl rfl ?_
                  refine vl_q (q_not rfl) (dk rfl) ?_
                  refine vl_q (q_pick_false rfl rfl) (dk rfl) ?_
                  refine vl_nil ?_
                  refine hK31 _ ?_
                  refine vc_cond_false rfl ?_
                  refine vc_skip ?_
                  refine hK30 _ ?_
                  refine vc_region ?_
                  refine vl_load rfl rfl rfl rfl rfl rfl rfl (by decide) (dk rfl) ?_
                  refine vl_store rfl rfl rfl rfl rfl rfl (Nat.le_of_ble_eq_true rfl) trivial ?_
                  refine vl_nil ?_
                  refine hK25 _ ?_
                  refine vc_weak (Weak.close1 (nm := 19) (i := 0) (j := 0) (m := 21) (es := (shAt id w z (nP w z) off (i + 1)).map heldO) rfl rfl rfl rfl (by simp) (by decide)) ?_
                  refine vc_region ?_
                  refine vl_q (q_move rfl) (dk rfl) ?_
                  refine vl_q (q_add rfl rfl (IntWalk.i64_in _ (by omega))) (dk rfl) ?_
                  refine vl_q (q_assign rfl) (dk rfl) ?_
                  refine vl_nil ?_
                  refine ⟨_, _, ?_, ⟨i + 1, by omega, rfl, rfl⟩, (Weak.cut _ _ _ (Nat.le_of_ble_eq_true rfl) ⟨⟨rfl, rfl⟩, ⟨rfl, rfl⟩, ⟨rfl, rfl⟩, ⟨rfl, rfl⟩, ⟨rfl, rfl⟩, ⟨rfl, rfl⟩, trivial⟩ ⟨⟨Nat.le_of_ble_eq_true rfl, rfl, belN_clo _ _ _⟩, ⟨Nat.le_of_ble_eq_true rfl, rfl, belN_all rfl⟩, trivial⟩ rfl)⟩
                  omega
          · refine vl_alloc rfl (dk rfl) ?_
            refine vl_nil ?_
            refine va_all [10] (by kernel_rfl) (by simp) ⟨⟨_, rfl, ?_⟩, trivial⟩
            rcases Nat.lt_or_ge (i + 1) (nP w z) with he | he
            · refine vl_callG [] (_) (c_AddStep_f (off := off) hid (by omega) (by omega) he) rfl rfl ⟨VOk.agg ⟨XOk.snapH rfl (by simp) (by simp [markHs_len]) (map_wid heldO_len) (heldsO_shr _), trivial⟩, XOk.val _, XOk.val _, XOk.val _, trivial⟩ trivial rfl (by decide) ⟨fix_clo _ _, trivial⟩ trivial rfl (.inr ⟨rfl, ⟨nzN_map heldO_noZ, trivial⟩, trivial⟩) (dk rfl) ?_
              refine vl_nil ?_
              refine va_q 11 rfl (by kernel_rfl) (by kernel_rfl) (by kernel_rfl) (q_move rfl) (dk rfl) ?_
              refine va_q 12 rfl (by kernel_rfl) (by kernel_rfl) (by kernel_rfl) (q_extract rfl rfl) (dk rfl) ?_
              refine va_q 13 rfl (by kernel_rfl) (by kernel_rfl) (by kernel_rfl) (q_extract rfl rfl) (dk rfl) ?_
              refine va_q 14 rfl (by kernel_rfl) (by kernel_rfl) (by kernel_rfl) (q_extract rfl rfl) (dk rfl) ?_
              refine va_all [16] (by kernel_rfl) (by simp) ⟨⟨_, rfl, ?_⟩, trivial⟩
              refine vl_store rfl rfl rfl rfl rfl rfl (Nat.le_of_ble_eq_true rfl) trivial ?_
              refine vl_nil ?_
              refine va_q 17 rfl (by kernel_rfl) (by kernel_rfl) (by kernel_rfl) (q_assign rfl) (dk rfl) ?_
              refine va_q 18 rfl (by kernel_rfl) (by kernel_rfl) (by kernel_rfl) (q_assign rfl) (dk rfl) ?_
              refine va_done (by kernel_rfl) ?_
              refine hK26 _ ?_
              refine vc_seq fun K32 hK32 => ?_
              refine vc_seq fun K33 hK33 => ?_
              refine vc_region ?_
              refine vl_q (q_move rfl) (dk rfl) ?_
              refine vl_q (q_move rfl) (dk rfl) ?_
              refine vl_q (q_add rfl rfl (IntWalk.i64_in _ (by omega))) (dk rfl) ?_
              refine vl_q (q_move rfl) (dk rfl) ?_
              refine vl_q (q_len_hdr rfl rfl rfl) (dk rfl) ?_
              refine vl_q (q_cmp rfl rfl rfl (decide_eq_false (by omega))) (dk rfl) ?_
              refine vl_two (x := fun b => vv (.bool b)) _ (q_cmpB rfl rfl rfl rfl (.inr rfl) rfl) (dk rfl) (fun h125 => ?_) (fun h125 => ?_)
              · replace h125 := neqB_of h125
                exact (h125 rfl).elim
              · replace h125 := neqB_nof h125
                refine vl_q (q_move rfl) (dk rfl) ?_
                refine vl_guard_on rfl rfl rfl ?_
                refine vl_q (q_move rfl) (dk rfl) ?_
                refine vl_guard_on rfl rfl rfl ?_
                refine vl_q (q_move rfl) (dk rfl) ?_
                refine vl_goff rfl rfl rfl (by decide) (dk rfl) ?_
                refine vl_goff rfl rfl rfl (by decide) (dk rfl) ?_
                refine vl_goff rfl rfl rfl (by decide) (dk rfl) ?_
                refine vl_guard_on rfl rfl rfl ?_
                refine vl_q (q_pick_false rfl rfl) (dk rfl) ?_
                refine vl_q (q_pick_false rfl rfl) (dk rfl) ?_
                refine vl_q (q_move rfl) (dk rfl) ?_
                refine vl_guard_on rfl rfl rfl ?_
                refine vl_load rfl rfl rfl rfl rfl rfl rfl (by decide) (dk rfl) ?_
                refine vl_guard_on rfl rfl rfl ?_
                refine vl_callP (c_ShelfOk_t (shAt id w z (nP w z) off (i + 1)) (step_good (off := off) hid (by omega) (by omega) (i + 1) (by omega))) rfl rfl ⟨VOk.agg ⟨XOk.snapH rfl (by simp) (by simp [markHs_len]) (map_wid heldO_len) (heldsO_shr _), trivial⟩, trivial⟩ rfl (.inl rfl) (dk rfl) ?_
                refine vl_guard_on rfl rfl rfl ?_
                refine vl_q (q_not rfl) (dk rfl) ?_
                refine vl_q (q_pick_false rfl rfl) (dk rfl) ?_
                refine vl_nil ?_
                refine hK33 _ ?_
                refine vc_cond_false rfl ?_
                refine vc_skip ?_
                refine hK32 _ ?_
                refine vc_region ?_
                refine vl_load rfl rfl rfl rfl rfl rfl rfl (by decide) (dk rfl) ?_
                refine vl_store rfl rfl rfl rfl rfl rfl (Nat.le_of_ble_eq_true rfl) trivial ?_
                refine vl_nil ?_
                refine hK25 _ ?_
                refine vc_weak (Weak.close1 (nm := 19) (i := 0) (j := 0) (m := 22) (es := (shAt id w z (nP w z) off (i + 1)).map heldO) rfl rfl rfl rfl (by simp) (by decide)) ?_
                refine vc_region ?_
                refine vl_q (q_move rfl) (dk rfl) ?_
                refine vl_q (q_add rfl rfl (IntWalk.i64_in _ (by omega))) (dk rfl) ?_
                refine vl_q (q_assign rfl) (dk rfl) ?_
                refine vl_nil ?_
                refine ⟨_, _, ?_, ⟨i + 1, by omega, rfl, rfl⟩, (Weak.cut _ _ _ (Nat.le_of_ble_eq_true rfl) ⟨⟨rfl, rfl⟩, ⟨rfl, rfl⟩, ⟨rfl, rfl⟩, ⟨rfl, rfl⟩, ⟨rfl, rfl⟩, ⟨rfl, rfl⟩, trivial⟩ ⟨⟨Nat.le_of_ble_eq_true rfl, rfl, belN_clo _ _ _⟩, ⟨Nat.le_of_ble_eq_true rfl, rfl, belN_all rfl⟩, trivial⟩ rfl)⟩
                omega
            · refine vl_callG [] (_) (c_AddStep_t (off := off) hid (by omega) (by omega) (by omega)) rfl rfl ⟨VOk.agg ⟨XOk.snapH rfl (by simp) (by simp [markHs_len]) (map_wid heldO_len) (heldsO_shr _), trivial⟩, XOk.val _, XOk.val _, XOk.val _, trivial⟩ trivial rfl (by decide) ⟨fix_clo _ _, trivial⟩ trivial rfl (.inr ⟨rfl, ⟨nzN_map heldO_noZ, trivial⟩, trivial⟩) (dk rfl) ?_
              refine vl_nil ?_
              refine va_q 11 rfl (by kernel_rfl) (by kernel_rfl) (by kernel_rfl) (q_move rfl) (dk rfl) ?_
              refine va_q 12 rfl (by kernel_rfl) (by kernel_rfl) (by kernel_rfl) (q_extract rfl rfl) (dk rfl) ?_
              refine va_q 13 rfl (by kernel_rfl) (by kernel_rfl) (by kernel_rfl) (q_extract rfl rfl) (dk rfl) ?_
              refine va_q 14 rfl (by kernel_rfl) (by kernel_rfl) (by kernel_rfl) (q_extract rfl rfl) (dk rfl) ?_
              refine va_all [16] (by kernel_rfl) (by simp) ⟨⟨_, rfl, ?_⟩, trivial⟩
              refine vl_store rfl rfl rfl rfl rfl rfl (Nat.le_of_ble_eq_true rfl) trivial ?_
              refine vl_nil ?_
              refine va_q 17 rfl (by kernel_rfl) (by kernel_rfl) (by kernel_rfl) (q_assign rfl) (dk rfl) ?_
              refine va_q 18 rfl (by kernel_rfl) (by kernel_rfl) (by kernel_rfl) (q_assign rfl) (dk rfl) ?_
              refine va_done (by kernel_rfl) ?_
              refine hK26 _ ?_
              refine vc_seq fun K34 hK34 => ?_
              refine vc_seq fun K35 hK35 => ?_
              refine vc_region ?_
              refine vl_q (q_move rfl) (dk rfl) ?_
              refine vl_q (q_move rfl) (dk rfl) ?_
              refine vl_q (q_add rfl rfl (IntWalk.i64_in _ (by omega))) (dk rfl) ?_
              refine vl_q (q_move rfl) (dk rfl) ?_
              refine vl_q (q_len_hdr rfl rfl rfl) (dk rfl) ?_
              refine vl_q (q_cmp rfl rfl rfl (decide_eq_true (by omega))) (dk rfl) ?_
              refine vl_two (x := fun b => vv (.bool b)) _ (q_cmpB rfl rfl rfl rfl (.inr rfl) rfl) (dk rfl) (fun h125 => ?_) (fun h125 => ?_)
              · replace h125 := neqB_of h125
                exact (h125 rfl).elim
              · replace h125 := neqB_nof h125
                refine vl_q (q_move rfl) (dk rfl) ?_
                refine vl_guard_on rfl rfl rfl ?_
                refine vl_q (q_move rfl) (dk rfl) ?_
                refine vl_guard_on rfl rfl rfl ?_
                refine vl_q (q_move rfl) (dk rfl) ?_
                refine vl_guard_on rfl rfl rfl ?_
                refine vl_q (q_move rfl) (dk rfl) ?_
                refine vl_guard_on rfl rfl rfl ?_
                refine vl_q (q_move rfl) (dk rfl) ?_
                refine vl_guard_on rfl rfl rfl ?_
                refine vl_two (x := fun b => vv (.bool b)) _ (q_cmpS rfl rfl (.inr rfl) rfl) (dk rfl) (fun h131 => ?_) (fun h131 => ?_)
                · replace h131 := neqS_of h131
                  exact (h131 rfl).elim
                · replace h131 := neqS_nof h131
                  refine vl_guard_on rfl rfl rfl ?_
                  refine vl_q (q_pick_true rfl rfl) (dk rfl) ?_
                  refine vl_q (q_pick_false rfl rfl) (dk rfl) ?_
                  refine vl_q (q_move rfl) (dk rfl) ?_
                  refine vl_guard_on rfl rfl rfl ?_
                  refine vl_load rfl rfl rfl rfl rfl rfl rfl (by decide) (dk rfl) ?_
                  refine vl_guard_on rfl rfl rfl ?_
                  refine vl_callP (c_ShelfOk_t (shAt id w z (nP w z) off (i + 1)) (step_good (off := off) hid (by omega) (by omega) (i + 1) (by omega))) rfl rfl ⟨VOk.agg ⟨XOk.snapH rfl (by simp) (by simp [markHs_len]) (map_wid heldO_len) (heldsO_shr _), trivial⟩, trivial⟩ rfl (.inl rfl) (dk rfl) ?_
                  refine vl_guard_on rfl rfl rfl ?_
                  refine vl_q (q_not rfl) (dk rfl) ?_
                  refine vl_q (q_pick_false rfl rfl) (dk rfl) ?_
                  refine vl_nil ?_
                  refine hK35 _ ?_
                  refine vc_cond_false rfl ?_
                  refine vc_skip ?_
                  refine hK34 _ ?_
                  refine vc_region ?_
                  refine vl_load rfl rfl rfl rfl rfl rfl rfl (by decide) (dk rfl) ?_
                  refine vl_store rfl rfl rfl rfl rfl rfl (Nat.le_of_ble_eq_true rfl) trivial ?_
                  refine vl_nil ?_
                  refine hK25 _ ?_
                  refine vc_weak (Weak.close1 (nm := 19) (i := 0) (j := 0) (m := 22) (es := (shAt id w z (nP w z) off (i + 1)).map heldO) rfl rfl rfl rfl (by simp) (by decide)) ?_
                  refine vc_region ?_
                  refine vl_q (q_move rfl) (dk rfl) ?_
                  refine vl_q (q_add rfl rfl (IntWalk.i64_in _ (by omega))) (dk rfl) ?_
                  refine vl_q (q_assign rfl) (dk rfl) ?_
                  refine vl_nil ?_
                  refine ⟨_, _, ?_, ⟨i + 1, by omega, rfl, rfl⟩, (Weak.cut _ _ _ (Nat.le_of_ble_eq_true rfl) ⟨⟨rfl, rfl⟩, ⟨rfl, rfl⟩, ⟨rfl, rfl⟩, ⟨rfl, rfl⟩, ⟨rfl, rfl⟩, ⟨rfl, rfl⟩, trivial⟩ ⟨⟨Nat.le_of_ble_eq_true rfl, rfl, belN_clo _ _ _⟩, ⟨Nat.le_of_ble_eq_true rfl, rfl, belN_all rfl⟩, trivial⟩ rfl)⟩
                  omega
        · replace h101 := lss_nof h101
          refine vl_nil ?_
          refine hK24 _ ?_
          refine vc_cond_false rfl ?_
          refine vc_exit ?_
          refine hK21 _ ?_
          refine vc_seq fun K36 hK36 => ?_
          obtain rfl : i = nP w z := by omega
          refine vc_region ?_
          refine vl_q (q_fieldAddr 0 rfl rfl rfl rfl (by decide) rfl rfl) (dk rfl) ?_
          refine vl_open (nm := 19) (i := 0) (j := 0) rfl rfl rfl rfl rfl rfl ?_
          rw [shAt_end]
          refine vl_load rfl rfl rfl rfl rfl rfl rfl (by decide) (dk rfl) ?_
          refine vl_q (q_len_hdr rfl rfl rfl) (dk rfl) ?_
          refine vl_two (x := fun b => vv (.bool b)) _ (q_cmp rfl rfl rfl rfl) (dk rfl) (fun h143 => ?_) (fun h143 => ?_)
          · replace h143 := eql_of h143
            refine vl_q (q_assign rfl) (dk rfl) ?_
            refine vl_nil ?_
            refine hK36 _ ?_
            refine vc_ret ?_
            refine ret_p rfl (.cons (res_tmp rfl) .nil) rfl ?_
            rfl
          · replace h143 := eql_nof h143
            exact (h143 rfl).elim
end Go.Vm.S
namespace Go.Proofs.Ythjohfhnpeiheaa
open Go Go.Vm Go.Vm.S Go.ChangeShapes Go.WideShapes Go.ChangeAt Go.RowKit
theorem Try.own : ownKnob Try.prog.godebug = none := by kernel_rfl
theorem Try.laidOut : laidOutB Try.prog = true := by kernel_rfl
theorem funcAt3 : Try.checked.prog.funcs[3]? = some Try.f3 := by kernel_rfl
set_option maxRecDepth 100000 in
theorem pieces_holds_lifted (os : Os) (started : os.Started) (H : Type) (enc : TypeId × Value → H) :
    ReturnsInHanded {} Try.checked os 3 .any (Rows.fnPiecesSpec.pre6 enc Try.prog Try.f3 Rows.fnPiecesRow.domain false) (Rows.fnPiecesSpec.post enc Try.prog Try.f3 false true false false) := by
  refine returnsInHanded_of_change (C := Try.checked) Try.own started (by kernel_rfl) funcAt3
    (ChangeSpec.witness6 (enc := enc) (C := Try.checked) false ⟨#[], #[.slice none 0 0], []⟩ 8 (by kernel_rfl) (by kernel_rfl) (by kernel_rfl) (by kernel_rfl)) ?_
  intro W base args ds gs before hval0 hW _ _
  have hval : ∀ (j : Nat) t v, Try.f3.params[j]? = some t → args[j]? = some v → Value.okWide Try.prog W .any base t v := hval0
  have hW' := hW
  obtain ⟨p, q, hA0, hV, rfl, hfz, hnd⟩ := hW
  have hA : DataW.TrodAll enc Try.prog W 0 (fun _ => true) true [22] args.toList ds p := hA0
  obtain ⟨v0, vs0, d0, ds0, p0, q0, hargs, rfl, rfl, h0, hR0⟩ := trodAll_cons hA
  obtain ⟨rfl, rfl, rfl⟩ := trodAll_nil hR0
  obtain rfl : args = #[v0] := by cases args; simp_all
  obtain ⟨c0, s0, r0⟩ := trod_one (P := Try.prog) 12 (by kernel_rfl) (tyok 22 _ rfl).1 rfl (hval 0 22 v0 rfl rfl) h0
  obtain ⟨bs, e0⟩ := shp_bytes s0
  cases e0
  exact law_calls (P := Try.prog) (vs := [.one (.c (.fz 1 (bs.map byteC)))]) tyok Try.laidOut rfl rfl (tyok 4 _ rfl).1 (by kernel_rfl) rfl hW' rfl
    (fun j x y hx hy L => by
      match j with
      | 0 => cases hx; cases hy; exact (r0 L 16).iced
      | j + 1 => simp at hx)
    (c_laws_FnPieces bs)
theorem pieces_holds : Rows.FnPiecesSaid :=
  OpenClaim.holds_of_wide 3 Try.f3 rfl rfl rfl rfl rfl rfl rfl ⟨rfl, rfl, rfl, rfl, rfl⟩ rfl rfl rfl rfl rfl (by kernel_rfl) funcAt3 (by kernel_rfl)
    (of_decide_eq_true (by kernel_rfl)) (by unfold Func.isWrapper; first | (rw [if_pos (by decide +kernel)]; kernel_rfl) | (rw [if_neg (by decide +kernel)]; exact ⟨rfl, rfl⟩))
    (fun os started H enc _ => pieces_holds_lifted os started H enc)
#print axioms pieces_holds
end Go.Proofs.Ythjohfhnpeiheaa
