/- Plain words for a part that is added. Plain words for the reference's way to add a part. The bounds of what the shelf gives when a part comes. Walks: laws.eqBoolS, laws.eqStringS, laws.eqHeld, laws.eqHeldS, laws.eqShelf (printed by vmgen.py). Walks: laws.markText, laws.markBoolS, laws.markStringS (printed by vmgen.py). Walks: laws.heldBoolS, laws.heldStringS, laws.heldHeldS, laws.heldShelf (printed by vmgen.py). What the law of the tidied shelf calls, at equal arguments. Walks: laws.szBoolS, laws.szStringS, laws.szHeld, laws.szHeldS, laws.szShelf (printed by vmgen.py). Walks: laws.toBoolS, laws.toStringS, laws.toHeld, laws.toHeldS, laws.toShelf (printed by vmgen.py). Walks: laws.markHeldS, laws.markShelf (printed by vmgen.py). Walks: spec.l20Copy (printed by vmgen.py). Walks: spec.TidyShelf (printed by vmgen.py). Walks: impl.copyTexts, impl.copyShelf (printed by vmgen.py). Walks: impl.within, spec.l01In, impl.isId (printed by vmgen.py). -/
import Derived.Test.YthjohfhnpeiheaaAddB
set_option linter.all false
namespace Go.Vm.S
open Go Go.Vm

def part (t : ByteArray) : ByteArray := t.extract 3 t.size
def kIdx (l : List Held) (fr : Int) (t : ByteArray) : Nat := l.findIdx (sameK fr (byteAt t 0))
def putPart (x : Held) (p : Nat) (s : ByteArray) : Held := if x.hav[p]? = some true then x else { x with parts := x.parts.set p s, hav := x.hav.set p true }
def fresh (fr : Int) (t : ByteArray) (now : Int) : Held := ⟨fr, byteAt t 0, byteAt t 2, List.replicate (byteAt t 2) ⟨#[]⟩, List.replicate (byteAt t 2) false, now + 8⟩
noncomputable def addOk (l : List Held) (fr : Int) (t : ByteArray) (now : Int) : Bool := shelfB l && (within fr 1 99 && (rpOk t && (decide ((part t).size ≤ 120) && within now 0 999999992)))
def three (r : List Held) : List Held := if r.length = 3 then r.drop 1 else r
noncomputable def addP (l : List Held) (fr : Int) (t : ByteArray) (now : Int) : List Held × ByteArray × Bool :=
  if addOk l fr t now then
    if byteAt t 2 = 1 then (l, part t, true)
    else match l[kIdx l fr t]? with
      | some x => if x.cnt = byteAt t 2 then
          let y := putPart x (byteAt t 1) (part t)
          if y.hav.all id then (l.eraseIdx (kIdx l fr t), catS y.parts, true) else (l.set (kIdx l fr t) y, ⟨#[]⟩, false)
        else (three (l.eraseIdx (kIdx l fr t)) ++ [putPart (fresh fr t now) (byteAt t 1) (part t)], ⟨#[]⟩, false)
      | none => (three l ++ [putPart (fresh fr t now) (byteAt t 1) (part t)], ⟨#[]⟩, false)
  else (l, ⟨#[]⟩, false)
section
variable {l : List Held} {fr : Int} {t : ByteArray} {now : Int}
theorem addP_bad (h : addOk l fr t now = false) : addP l fr t now = (l, ⟨#[]⟩, false) := by unfold addP; rw [h]; rfl
theorem addOk_f (h : shelfB l = false ∨ within fr 1 99 = false ∨ rpOk t = false ∨ 120 < (part t).size ∨ within now 0 999999992 = false) : addOk l fr t now = false := by
  unfold addOk
  rcases h with h | h | h | h | h
  · rw [h]; rfl
  · rw [h]; simp
  · rw [h]; simp
  · rw [decide_eq_false (by omega)]; simp
  · rw [h]; simp
theorem addOk_t (h1 : shelfB l = true) (h2 : within fr 1 99 = true) (h3 : rpOk t = true) (h4 : (part t).size ≤ 120) (h5 : within now 0 999999992 = true) : addOk l fr t now = true := by
  unfold addOk; rw [h1, h2, h3, h5, decide_eq_true h4]; rfl
theorem addP_one (h : addOk l fr t now = true) (h1 : byteAt t 2 = 1) : addP l fr t now = (l, part t, true) := by unfold addP; rw [if_pos h, if_pos h1]
theorem addP_full {i : Nat} {y : Held} (h : addOk l fr t now = true) (h1 : byteAt t 2 ≠ 1) (hi : kIdx l fr t = i) (hil : i < l.length) (hc : l[i].cnt = byteAt t 2) (hy : putPart l[i] (byteAt t 1) (part t) = y) (hf : y.hav.all id = true) :
    addP l fr t now = (l.eraseIdx i, catS y.parts, true) := by
  subst hi; subst hy
  unfold addP; rw [if_pos h, if_neg h1, List.getElem?_eq_getElem hil]
  simp only [if_pos hc]
  rw [if_pos hf]
theorem addP_set {i : Nat} {y : Held} (h : addOk l fr t now = true) (h1 : byteAt t 2 ≠ 1) (hi : kIdx l fr t = i) (hil : i < l.length) (hc : l[i].cnt = byteAt t 2) (hy : putPart l[i] (byteAt t 1) (part t) = y) (hf : y.hav.all id = false) :
    addP l fr t now = (l.set i y, ⟨#[]⟩, false) := by
  subst hi; subst hy
  unfold addP; rw [if_pos h, if_neg h1, List.getElem?_eq_getElem hil]
  simp only [if_pos hc]
  rw [if_neg (by rw [hf]; simp)]
theorem addP_new (h : addOk l fr t now = true) (h1 : byteAt t 2 ≠ 1) (hc : ∀ (hil : kIdx l fr t < l.length), l[kIdx l fr t].cnt ≠ byteAt t 2) :
    addP l fr t now = (three (l.eraseIdx (kIdx l fr t)) ++ [putPart (fresh fr t now) (byteAt t 1) (part t)], ⟨#[]⟩, false) := by
  unfold addP; rw [if_pos h, if_neg h1]
  rcases Nat.lt_or_ge (kIdx l fr t) l.length with hil | hil
  · rw [List.getElem?_eq_getElem hil]; simp only [if_neg (hc hil)]
  · rw [List.getElem?_eq_none hil]; simp only; rw [List.eraseIdx_of_length_le hil]
theorem erase_rows {l : List Held} {i : Nat} (hi : i < l.length) {junk : List (List X)} : ((clo (l.map heldO)).take i ++ (clo (l.map heldO)).drop (i + 1) ++ junk).take (l.length - 1) = clo ((l.eraseIdx i).map heldO) := by
  rw [clo_take, clo_drop, clo_append, List.take_left' (by simp only [clo_len, List.length_map, List.length_append, List.length_take, List.length_drop]; omega), List.eraseIdx_eq_take_drop_succ]
/-- the only one of a key -/
theorem key_only (g : ShelfGood l) {id : Int} {i j : Nat} (hi : i < l.length) (hj : j < l.length) (h1 : sameK fr id l[i] = true) (h2 : sameK fr id l[j] = true) : i = j := by
  simp only [sameK, Bool.and_eq_true, decide_eq_true_eq] at h1 h2
  rcases Nat.lt_trichotomy i j with h | h | h
  · have := (g.rows j hj hj).2 i hi h
    rw [sameK_t (by rw [h1.1, h2.1]) (by rw [h1.2, h2.2])] at this; cases this
  · exact h
  · have := (g.rows i hi hi).2 j hj h
    rw [sameK_t (by rw [h1.1, h2.1]) (by rw [h1.2, h2.2])] at this; cases this
theorem kIdx_is (g : ShelfGood l) {i : Nat} (hi : i < l.length) (h1 : sameK fr (byteAt t 0) l[i] = true) : kIdx l fr t = i := by
  have hlt : kIdx l fr t < l.length := List.findIdx_lt_length_of_exists ⟨l[i], List.getElem_mem hi, h1⟩
  exact key_only g hlt hi (List.findIdx_getElem (w := hlt)) h1
theorem kIdx_none (h : ∀ x, x ∈ l → sameK fr (byteAt t 0) x = false) : kIdx l fr t = l.length := List.findIdx_eq_length.2 h
theorem rp_parts (h : rpOk t = true) : 3 ≤ t.size ∧ 1 ≤ byteAt t 2 ∧ byteAt t 2 ≤ 15 ∧ byteAt t 1 < byteAt t 2 := by
  simp only [rpOk, within, Bool.and_eq_true, decide_eq_true_eq] at h; omega
theorem put_t {x : Held} {p : Nat} {s : ByteArray} (h : p < x.hav.length) (hb : x.hav[p] = true) : putPart x p s = x := by
  unfold putPart; rw [List.getElem?_eq_getElem h, hb, if_pos rfl]
theorem put_f {x : Held} {p : Nat} {s : ByteArray} (h : p < x.hav.length) (hb : x.hav[p] = false) : putPart x p s = { x with parts := x.parts.set p s, hav := x.hav.set p true } := by
  unfold putPart; rw [List.getElem?_eq_getElem h, hb, if_neg (by simp)]
theorem put_len (x : Held) (p : Nat) (s : ByteArray) : (putPart x p s).parts.length = x.parts.length ∧ (putPart x p s).hav.length = x.hav.length := by
  unfold putPart; split <;> simp
theorem fresh_notall {n p : Nat} (hn : 2 ≤ n) (hp : p < n) : ((List.replicate n false).set p true).all id = false := by
  have : ∃ q, q < n ∧ q ≠ p := by
    by_cases h : p = 0
    · exact ⟨1, by omega, by omega⟩
    · exact ⟨0, by omega, by omega⟩
  obtain ⟨q, hq, hne⟩ := this
  have hl : q < ((List.replicate n false).set p true).length := by simpa using hq
  refine all_f hl ?_
  rw [List.getElem_set_ne (fun e => hne e.symm), List.getElem_replicate]
theorem sum120 : ∀ (l : List ByteArray), (∀ s, s ∈ l → s.size ≤ 120) → sumOf ByteArray.size l ≤ l.length * 120 := by
  intro l
  induction l with
  | nil => intro _; simp [sumOf]
  | cons a r ih =>
    intro h
    have h1 := ih fun s hs => h s (List.mem_cons_of_mem _ hs)
    have h2 := h a List.mem_cons_self
    simp only [sumOf, List.map_cons, List.sum_cons, List.length_cons] at h1 ⊢
    omega
theorem sz_put {x : Held} (g : HeldGood x) (p : Nat) {s : ByteArray} (hs : s.size ≤ 120) : sumOf ByteArray.size (putPart x p s).parts ≤ 1800 := by
  have hw := within_of g.cnt
  have hp := g.parts
  have hb : ∀ s, s ∈ x.parts → s.size ≤ 120 := fun s hs => by
    obtain ⟨j, hj, rfl⟩ := List.getElem_of_mem hs
    have h2 : j < x.hav.length := by have := g.hav; omega
    have := g.rows j h2 hj h2
    simp only [rowOk, Bool.and_eq_true, decide_eq_true_eq] at this
    exact this.1
  have := sum120 (putPart x p s).parts (fun y hy => by
    unfold putPart at hy
    split at hy
    · exact hb y hy
    · rcases List.mem_or_eq_of_mem_set hy with h | h
      · exact hb y h
      · rw [h]; exact hs)
  rw [(put_len x p s).1] at this
  omega
/-- a shelf with a place for the part -/
def FillP (l : List Held) (fr : Int) (t : ByteArray) (now : Int) (l3 : List Held) (a : Nat) : Prop :=
  (l3 = three (l.eraseIdx (kIdx l fr t)) ++ [fresh fr t now] ∧ a = (three (l.eraseIdx (kIdx l fr t))).length ∧ ∀ (hil : kIdx l fr t < l.length), l[kIdx l fr t].cnt ≠ byteAt t 2) ∨
  (l3 = l ∧ kIdx l fr t = a ∧ ∀ (hil : a < l.length), l[a].cnt = byteAt t 2)
theorem fill_len {l3 : List Held} {a : Nat} (g : ShelfGood l) (h : FillP l fr t now l3 a) (ha : a < l3.length) : l3[a].hav.length = byteAt t 2 ∧ l3[a].parts.length = byteAt t 2 := by
  rcases h with ⟨rfl, rfl, _⟩ | ⟨rfl, _, hc⟩
  · rw [List.getElem_append_right (Nat.le_refl _)]; simp [fresh]
  · have := (g.rows a ha ha).1
    have h1 := this.parts; have h2 := this.hav; have h3 := hc ha
    omega
theorem fill_sz {l3 : List Held} {a : Nat} (g : ShelfGood l) (h : FillP l fr t now l3 a) (ha : a < l3.length) (hr : rpOk t = true) (hs : (part t).size ≤ 120) : sumOf ByteArray.size (putPart l3[a] (byteAt t 1) (part t)).parts ≤ 1800 := by
  rcases h with ⟨rfl, rfl, _⟩ | ⟨rfl, _, hc⟩
  · have hp := rp_parts hr
    rw [List.getElem_append_right (Nat.le_refl _)]
    simp only [Nat.sub_self, List.getElem_cons_zero]
    have := sum120 (putPart (fresh fr t now) (byteAt t 1) (part t)).parts (fun y hy => by
      unfold putPart at hy
      split at hy
      · rw [List.eq_of_mem_replicate hy]; decide
      · rcases List.mem_or_eq_of_mem_set hy with h | h
        · rw [List.eq_of_mem_replicate h]; decide
        · rw [h]; exact hs)
    rw [(put_len _ _ _).1] at this
    simp only [fresh, List.length_replicate] at this
    simp only [fresh]
    omega
  · exact sz_put (g.rows a ha ha).1 _ hs
theorem fill_out {l3 : List Held} {a : Nat} (h0 : addOk l fr t now = true) (h1 : byteAt t 2 ≠ 1) (h : FillP l fr t now l3 a) (ha : a < l3.length) (hf : (putPart l3[a] (byteAt t 1) (part t)).hav.all id = false) :
    addP l fr t now = (l3.set a (putPart l3[a] (byteAt t 1) (part t)), ⟨#[]⟩, false) := by
  rcases h with ⟨rfl, rfl, hn⟩ | ⟨rfl, hk, hc⟩
  · rw [addP_new h0 h1 hn, List.getElem_append_right (Nat.le_refl _), List.set_append_right _ _ (Nat.le_refl _)]
    simp
  · exact addP_set h0 h1 hk ha (hc ha) rfl hf
theorem fill_full {l3 : List Held} {a : Nat} (h0 : addOk l fr t now = true) (hr : rpOk t = true) (h1 : byteAt t 2 ≠ 1) (h : FillP l fr t now l3 a) (ha : a < l3.length) (hf : (putPart l3[a] (byteAt t 1) (part t)).hav.all id = true) :
    addP l fr t now = (l3.eraseIdx a, catS (putPart l3[a] (byteAt t 1) (part t)).parts, true) := by
  rcases h with ⟨rfl, rfl, hn⟩ | ⟨rfl, hk, hc⟩
  · exfalso
    have hp := rp_parts hr
    rw [List.getElem_append_right (Nat.le_refl _)] at hf
    simp only [Nat.sub_self, List.getElem_cons_zero] at hf
    rw [put_f (by simp [fresh]; omega) (by simp [fresh])] at hf
    simp only [fresh] at hf
    rw [fresh_notall (by omega) (by omega)] at hf
    cases hf
  · exact addP_full h0 h1 hk ha (hc ha) rfl hf
theorem mem_all {l : List Bool} (h : decide (false ∈ l) = true) : l.all id = false := by
  have h := of_decide_eq_true h
  rw [List.all_eq_false]; exact ⟨false, h, by simp⟩
theorem nmem_all {l : List Bool} (h : decide (false ∈ l) = false) : l.all id = true := by
  have h := of_decide_eq_false h
  rw [List.all_eq_true]; intro x hx
  cases x with
  | true => rfl
  | false => exact absurd hx h
theorem three_t {r : List Held} (h : r.length = 3) : three r = r.drop 1 := if_pos h
theorem three_f {r : List Held} (h : r.length ≠ 3) : three r = r := if_neg h
theorem boolsC_shr (l : List Bool) : (l.map boolC).map (List.map C.shr) = l.map boolC := by
  rw [List.map_map]; exact List.map_congr_left fun h _ => boolC_shr h
theorem strsC_shr (l : List ByteArray) : (l.map strC).map (List.map C.shr) = l.map strC := by
  rw [List.map_map]; exact List.map_congr_left fun h _ => strC_shr h
theorem rep_clo {α : Type} {f : α → List C} {x : α} {n : Nat} : List.replicate n ((f x).map X.c) = clo ((List.replicate n x).map f) := by simp [clo]
theorem sz_part {x : Held} (g : HeldGood x) : sumOf ByteArray.size x.parts ≤ 15 * 120 := by
  have hw := within_of g.cnt
  have hp := g.parts
  have hb : ∀ s, s ∈ x.parts → s.size ≤ 120 := fun s hs => by
    obtain ⟨j, hj, rfl⟩ := List.getElem_of_mem hs
    have h2 : j < x.hav.length := by have := g.hav; omega
    have := g.rows j h2 hj h2
    simp only [rowOk, Bool.and_eq_true, decide_eq_true_eq] at this
    exact this.1
  have : ∀ (l : List ByteArray), (∀ s, s ∈ l → s.size ≤ 120) → sumOf ByteArray.size l ≤ l.length * 120 := by
    intro l
    induction l with
    | nil => intro _; simp [sumOf]
    | cons a r ih =>
      intro h
      have h1 := ih fun s hs => h s (List.mem_cons_of_mem _ hs)
      have h2 := h a List.mem_cons_self
      simp only [sumOf, List.map_cons, List.sum_cons, List.length_cons] at h1 ⊢
      omega
  have := this x.parts hb
  omega
end
end Go.Vm.S
namespace Go.Vm.S
open Go Go.Vm

/-- a held row, its arrays frozen -/
def heldF (h : Held) : List C := [.val (.int .i64 h.fr), .val (.int .i64 h.id), .val (.int .i64 h.cnt), .fz 1 (h.parts.map strC), .fz 1 (h.hav.map boolC), .val (.int .i64 h.til)]
theorem heldF_len (h : Held) : (heldF h).length = 6 := rfl
theorem heldF_shr (h : Held) : (heldF h).map C.shr = heldC h := by
  simp only [heldF, heldC, List.map_cons, List.map_nil, C.shr_val, C.shr_fz, List.map_map, Function.comp_def, strC_shr, boolC_shr]
theorem heldsF_shr (l : List Held) : (l.map heldF).map (List.map C.shr) = l.map heldC := by
  rw [List.map_map]; exact List.map_congr_left fun h _ => heldF_shr h
theorem strC_frz (s : ByteArray) : (strC s).map C.frz = strC s := by simp [strC, C.frz_val]
theorem boolC_frz (s : Bool) : (boolC s).map C.frz = boolC s := by simp [boolC, C.frz_val]
theorem strs_frz (l : List ByteArray) (n : Nat) (h : l.length ≤ n) : (((l.map strC).drop 0).take n).map (List.map C.frz) = l.map strC := by
  rw [List.drop_zero, List.take_of_length_le (by simpa using h), List.map_map]; exact List.map_congr_left fun h _ => strC_frz h
theorem bools_frz (l : List Bool) (n : Nat) (h : l.length ≤ n) : (((l.map boolC).drop 0).take n).map (List.map C.frz) = l.map boolC := by
  rw [List.drop_zero, List.take_of_length_le (by simpa using h), List.map_map]; exact List.map_congr_left fun h _ => boolC_frz h
/-- rows that are gone, rows that are there still -/
def jkR (l : List Held) (i : Nat) : List (List C) := List.replicate i anyR ++ (l.drop i).map heldO
theorem jkR_zero (l : List Held) : jkR l 0 = l.map heldO := by simp [jkR]
theorem jkR_len {l : List Held} {i : Nat} (h : i ≤ l.length) : (jkR l i).length = l.length := by simp [jkR]; omega
theorem jkR_at {l : List Held} {i : Nat} (h : i < l.length) : (clo (jkR l i))[i]? = some ((heldO l[i]).map X.c) := by
  have : (jkR l i)[i]? = some (heldO l[i]) := by
    unfold jkR
    rw [List.getElem?_append_right (by simp)]
    simp only [List.length_replicate, Nat.sub_self]
    rw [List.getElem?_map, List.getElem?_drop, Nat.add_zero, List.getElem?_eq_getElem h]; rfl
  simp only [clo, List.getElem?_map, this, Option.map_some]
theorem jkR_wid (l : List Held) (i : Nat) : ∀ e, e ∈ jkR l i → e.length = 6 := by
  intro e he
  rcases List.mem_append.1 he with h | h
  · rw [List.eq_of_mem_replicate h]; rfl
  · obtain ⟨x, _, rfl⟩ := List.mem_map.1 h; rfl
theorem jkR_next {l : List Held} {i : Nat} (h : i < l.length) : (clo (jkR l i)).set i (List.replicate 6 (X.c .any)) = clo (jkR l (i + 1)) := by
  have : (List.replicate 6 (X.c .any)) = anyR.map X.c := by simp [anyR]
  rw [this]
  unfold jkR clo
  rw [List.map_append, List.map_append, List.set_append_right _ _ (by simp)]
  simp only [List.length_map, List.length_replicate, Nat.sub_self]
  rw [List.drop_eq_getElem_cons h, List.map_cons, List.map_cons, List.set_cons_zero, List.replicate_succ']
  simp
/-- what is not of the key, of the first i -/
def rst (l : List Held) (fr : Int) (t : ByteArray) (i : Nat) : List Held := (l.take i).eraseIdx (kIdx l fr t)
/-- what is found of the key, of the first i -/
def XP (l : List Held) (fr : Int) (t : ByteArray) (now : Int) (i : Nat) (x : Held) (at1 : Int) : Prop :=
  (kIdx l fr t < i ∧ (∃ h : kIdx l fr t < l.length, l[kIdx l fr t].cnt = byteAt t 2 ∧ x = l[kIdx l fr t]) ∧ at1 = kIdx l fr t) ∨
  ((∀ h : kIdx l fr t < l.length, kIdx l fr t < i → l[kIdx l fr t].cnt ≠ byteAt t 2) ∧ x = fresh fr t now ∧ at1 = -1)
section
variable {l : List Held} {fr : Int} {t : ByteArray} {now : Int}
theorem rst_zero : rst l fr t 0 = [] := by simp [rst]
theorem rst_ne {i : Nat} (h : i < l.length) (hk : kIdx l fr t ≠ i) : rst l fr t (i + 1) = rst l fr t i ++ [l[i]] := by
  unfold rst
  rw [List.take_add_one, List.getElem?_eq_getElem h, Option.toList_some]
  have hl : (l.take i).length = i := by simp; omega
  rcases Nat.lt_or_ge (kIdx l fr t) i with h1 | h1
  · rw [List.eraseIdx_append_of_lt_length (by omega)]
  · rw [List.eraseIdx_of_length_le (l := l.take i ++ [l[i]]) (by simp; omega), List.eraseIdx_of_length_le (l := l.take i) (by omega)]
theorem rst_eq {i : Nat} (h : i < l.length) (hk : kIdx l fr t = i) : rst l fr t (i + 1) = rst l fr t i := by
  unfold rst
  rw [List.take_add_one, List.getElem?_eq_getElem h, Option.toList_some]
  have hl : (l.take i).length = i := by simp; omega
  rw [List.eraseIdx_append_of_length_le (by omega), List.eraseIdx_of_length_le (l := l.take i) (by omega), hl, hk]
  simp
theorem rst_full : rst l fr t l.length = l.eraseIdx (kIdx l fr t) := by unfold rst; rw [List.take_length]
theorem rst_at {i : Nat} (h : i < l.length) (hk : kIdx l fr t = i) : (rst l fr t i).length = i := by
  unfold rst
  rw [List.eraseIdx_of_length_le (by rw [hk]; simp; omega)]; simp; omega
theorem rst_le (i : Nat) : (rst l fr t i).length ≤ l.length := by
  unfold rst; rw [List.length_eraseIdx]; split <;> simp <;> omega
theorem XP_zero : XP l fr t now 0 (fresh fr t now) (-1) := .inr ⟨fun _ h => absurd h (by omega), rfl, rfl⟩
theorem XP_ne {i : Nat} {x : Held} {at1 : Int} (h : XP l fr t now i x at1) (hk : kIdx l fr t ≠ i) : XP l fr t now (i + 1) x at1 := by
  rcases h with ⟨h1, h2, h3⟩ | ⟨h1, h2, h3⟩
  · exact .inl ⟨by omega, h2, h3⟩
  · exact .inr ⟨fun h h' => h1 h (by omega), h2, h3⟩
theorem XP_no {i : Nat} {x : Held} {at1 : Int} (h : XP l fr t now i x at1) (hi : i < l.length) (hk : kIdx l fr t = i) (hc : l[i].cnt ≠ byteAt t 2) : XP l fr t now (i + 1) x at1 := by
  rcases h with ⟨h1, h2, h3⟩ | ⟨h1, h2, h3⟩
  · omega
  · refine .inr ⟨fun h h' => ?_, h2, h3⟩
    simp only [hk]; exact hc
theorem XP_yes {i : Nat} (hi : i < l.length) (hk : kIdx l fr t = i) (hc : l[i].cnt = byteAt t 2) : XP l fr t now (i + 1) l[i] i :=
  by subst hk; exact .inl ⟨by omega, ⟨hi, hc, rfl⟩, rfl⟩
theorem XP_len {x : Held} {at1 : Int} (g : ShelfGood l) (h : XP l fr t now l.length x at1) : x.hav.length = byteAt t 2 ∧ x.parts.length = byteAt t 2 := by
  rcases h with ⟨_, ⟨h, hc, rfl⟩, _⟩ | ⟨_, rfl, _⟩
  · have := (g.rows _ h h).1
    have h1 := this.parts; have h2 := this.hav
    omega
  · simp [fresh]
theorem XP_sz {x : Held} {at1 : Int} (g : ShelfGood l) (h : XP l fr t now l.length x at1) (hr : rpOk t = true) (hs : (part t).size ≤ 120) : sumOf ByteArray.size (putPart x (byteAt t 1) (part t)).parts ≤ 1800 := by
  rcases h with ⟨_, ⟨hl, hc, rfl⟩, _⟩ | ⟨_, rfl, _⟩
  · exact sz_put (g.rows _ hl hl).1 _ hs
  · have := fill_sz (l3 := three (l.eraseIdx l.length) ++ [fresh fr t now]) (a := (three (l.eraseIdx l.length)).length) (l := []) (fr := fr) (t := t) (now := now)
    have h2 := sum120 (putPart (fresh fr t now) (byteAt t 1) (part t)).parts (fun y hy => by
      unfold putPart at hy
      split at hy
      · rw [List.eq_of_mem_replicate hy]; decide
      · rcases List.mem_or_eq_of_mem_set hy with h | h
        · rw [List.eq_of_mem_replicate h]; decide
        · rw [h]; exact hs)
    rw [(put_len _ _ _).1] at h2
    have := rp_parts hr
    simp only [fresh, List.length_replicate] at h2
    simp only [fresh]
    omega
theorem XP_full {x : Held} {at1 : Int} (h0 : addOk l fr t now = true) (hr : rpOk t = true) (h1 : byteAt t 2 ≠ 1) (h : XP l fr t now l.length x at1) (hf : (putPart x (byteAt t 1) (part t)).hav.all id = true) :
    addP l fr t now = (l.eraseIdx (kIdx l fr t), catS (putPart x (byteAt t 1) (part t)).parts, true) := by
  rcases h with ⟨_, ⟨hl, hc, rfl⟩, _⟩ | ⟨_, rfl, _⟩
  · exact addP_full h0 h1 rfl hl hc rfl hf
  · exfalso
    have hp := rp_parts hr
    rw [put_f (by simp [fresh]; omega) (by simp [fresh])] at hf
    simp only [fresh] at hf
    rw [fresh_notall (by omega) (by omega)] at hf
    cases hf
theorem XP_set {x : Held} {at1 : Int} (h0 : addOk l fr t now = true) (h1 : byteAt t 2 ≠ 1) (h : XP l fr t now l.length x at1) (ha : 0 ≤ at1) (hf : (putPart x (byteAt t 1) (part t)).hav.all id = false) :
    ∃ k : Nat, at1 = k ∧ k ≤ (l.eraseIdx (kIdx l fr t)).length ∧ addP l fr t now = ((l.eraseIdx (kIdx l fr t)).take k ++ [putPart x (byteAt t 1) (part t)] ++ (l.eraseIdx (kIdx l fr t)).drop k, ⟨#[]⟩, false) := by
  rcases h with ⟨_, ⟨hl, hc, rfl⟩, h3⟩ | ⟨_, _, h3⟩
  · refine ⟨kIdx l fr t, h3, by rw [List.length_eraseIdx, if_pos hl]; omega, ?_⟩
    rw [addP_set h0 h1 rfl hl hc rfl hf]
    congr 1
    rw [List.eraseIdx_eq_take_drop_succ, List.take_left' (by simp; omega), List.drop_left' (by simp; omega), List.set_eq_take_append_cons_drop, if_pos hl]
    simp
  · omega
theorem XP_new {x : Held} {at1 : Int} (h0 : addOk l fr t now = true) (h1 : byteAt t 2 ≠ 1) (h : XP l fr t now l.length x at1) (ha : at1 < 0) : addP l fr t now = (three (l.eraseIdx (kIdx l fr t)) ++ [putPart x (byteAt t 1) (part t)], ⟨#[]⟩, false) := by
  rcases h with ⟨_, _, h3⟩ | ⟨hn, rfl, h3⟩
  · omega
  · exact addP_new h0 h1 fun h => hn h h
theorem sz_held {x : Held} (hp : x.parts.length ≤ 15) (hh : x.hav.length ≤ 15) (hs : sumOf ByteArray.size x.parts ≤ 1800) : szHeld x ≤ 2000 := by unfold szHeld szStrs; omega
theorem sz_small : ∀ {l : List Held}, (∀ x, x ∈ l → szHeld x ≤ 2000) → szHelds l ≤ 2001 * l.length := by
  intro l
  induction l with
  | nil => intro _; simp [szHelds, sumOf]
  | cons a r ih =>
    intro h
    have h1 := ih fun x hx => h x (List.mem_cons_of_mem _ hx)
    have h2 := h a List.mem_cons_self
    simp only [szHelds, sumOf, List.map_cons, List.sum_cons, List.length_cons] at h1 ⊢
    omega
theorem sz_good (g : ShelfGood l) : ∀ x, x ∈ l → szHeld x ≤ 2000 := fun x hx => by
  obtain ⟨j, hj, rfl⟩ := List.getElem_of_mem hx
  have hg := (g.rows j hj hj).1
  have hw := within_of hg.cnt
  have h1 := hg.parts; have h2 := hg.hav
  exact sz_held (by omega) (by omega) (by have := sz_part hg; omega)
theorem catS_size (l : List ByteArray) : (catS l).size = sumOf ByteArray.size l := by
  have := cat_len l
  unfold catS
  rw [← this]; rfl
theorem catS_snoc (l : List ByteArray) (s : ByteArray) : catS (l ++ [s]) = catS l ++ s := by
  apply ByteArray.ext
  apply Array.ext'
  simp [catS, ByteArray.data_append]
theorem plainF (l : List Held) : ∀ e, e ∈ clo (l.map heldF) → e.all plainX = true := fun e he => by
  simp only [clo, List.mem_map] at he
  obtain ⟨x, ⟨h, _, rfl⟩, rfl⟩ := he
  rfl
theorem widF (l : List Held) : ∀ e, e ∈ clo (l.map heldF) → e.length = 6 := clo_wid (map_wid heldF_len)
theorem ins_rows {r : List Held} {y : Held} {k m n : Nat} {es : List (List X)} (h : k ≤ r.length) (hm : m = k) (hn : n = k + 1) :
    ((((es.drop 0).take 0 ++ clo ((r.take k).map heldF)).drop 0).take m ++ [(heldF y).map X.c] |>.drop 0).take n ++ clo ((r.drop k).map heldF) = clo ((r.take k ++ [y] ++ r.drop k).map heldF) := by
  subst hm; subst hn
  have h1 : (clo ((r.take m).map heldF)).length = m := by simp [clo_len]; omega
  rw [List.take_zero, List.nil_append, List.drop_zero, List.drop_zero, List.take_of_length_le (by rw [List.length_append, List.length_take, h1]; simp), List.take_of_length_le (by omega), clo_one, clo_append]
theorem ins_sz {r : List Held} {y : Held} {k : Nat} (hr : ∀ z, z ∈ r → szHeld z ≤ 2000) (hy : szHeld y ≤ 2000) : ∀ z, z ∈ r.take k ++ [y] ++ r.drop k → szHeld z ≤ 2000 := fun z hz => by
  rcases List.mem_append.1 hz with h | h
  · rcases List.mem_append.1 h with h | h
    · exact hr z (List.mem_of_mem_take h)
    · rw [List.mem_singleton.1 h]; exact hy
  · exact hr z (List.mem_of_mem_drop h)
theorem ins_len (r : List Held) (y : Held) {k : Nat} (h : k ≤ r.length) : (r.take k ++ [y] ++ r.drop k).length = r.length + 1 := by simp; omega
theorem new_sz {r : List Held} {y : Held} (hr : ∀ z, z ∈ r → szHeld z ≤ 2000) (hy : szHeld y ≤ 2000) : ∀ z, z ∈ three r ++ [y] → szHeld z ≤ 2000 := fun z hz => by
  rcases List.mem_append.1 hz with h | h
  · unfold three at h
    split at h
    · exact hr z (List.mem_of_mem_drop h)
    · exact hr z h
  · rw [List.mem_singleton.1 h]; exact hy
theorem new_len (r : List Held) (y : Held) : (three r ++ [y]).length ≤ r.length + 1 := by
  unfold three; split <;> simp
theorem tail_rows {r : List Held} {y : Held} (h : r.length = 3) {n : Nat} (hn : n = 2) : ((clo (r.map heldF)).drop 1).take n ++ [(heldF y).map X.c] = clo ((three r ++ [y]).map heldF) := by
  subst hn
  rw [three_t h, clo_drop, List.take_of_length_le (by simp [clo_len]; omega), clo_one]
theorem all_rows {r : List Held} {y : Held} (h : r.length ≠ 3) {n : Nat} (hn : n = r.length) : ((clo (r.map heldF)).drop 0).take n ++ [(heldF y).map X.c] = clo ((three r ++ [y]).map heldF) := by
  subst hn
  rw [three_f h, List.drop_zero, List.take_of_length_le (by simp [clo_len]), clo_one]
theorem key_of {i : Nat} (h : i < l.length) (e : kIdx l fr t = i) : sameK fr (byteAt t 0) l[i] = true := by
  subst e; exact List.findIdx_getElem (w := h)
theorem take_snoc {l : List ByteArray} {k : Nat} (h : k < l.length) : l.take (k + 1) = l.take k ++ [l[k]] := by
  rw [List.take_add_one, List.getElem?_eq_getElem h]; rfl
theorem catS_nil : catS [] = ⟨#[]⟩ := rfl
end
end Go.Vm.S
namespace Go.Vm.S
open Go Go.Vm
theorem szHelds_erase (l : List Held) (k : Nat) : szHelds (l.eraseIdx k) ≤ szHelds l := by
  induction l generalizing k with
  | nil => simp
  | cons a r ih =>
    cases k with
    | zero => simp only [List.eraseIdx_cons_zero]; unfold szHelds sumOf; simp only [List.map_cons, List.sum_cons, List.length_cons]; omega
    | succ k =>
      have := ih k
      unfold szHelds sumOf at *
      simp only [List.eraseIdx_cons_succ, List.map_cons, List.sum_cons, List.length_cons] at *; omega
theorem putPart_len (x : Held) (p : Nat) (s : ByteArray) : (putPart x p s).hav.length = x.hav.length ∧ (putPart x p s).parts.length = x.parts.length := by
  have h := put_len x p s
  exact ⟨h.2, h.1⟩
theorem addP_sz {l : List Held} {fr : Int} {t : ByteArray} {now : Int} (hb : szHelds l ≤ 1048576) : szHelds (addP l fr t now).1 ≤ 2097152 := by
  rcases Bool.eq_false_or_eq_true (addOk l fr t now) with h | h
  · by_cases h1 : byteAt t 2 = 1
    · rw [addP_one h h1]; show szHelds l ≤ _; omega
    · have hh := h
      unfold addOk at hh
      simp only [Bool.and_eq_true, decide_eq_true_eq] at hh
      obtain ⟨hsb, hfr, hr, hp, hw⟩ := hh
      have hsg : ShelfGood l := of_decide_eq_true hsb
      have hrl := rp_parts hr
      have hl := hsg.len
      have hgood := sz_good hsg
      have hnew : szHeld (putPart (fresh fr t now) (byteAt t 1) (part t)) ≤ 2000 := by
        have hF := XP_len hsg (x := fresh fr t now) (at1 := -1) (now := now) (fr := fr) (t := t)
        refine sz_held ?_ ?_ ?_
        · rw [(putPart_len _ _ _).2]; simp [fresh]; omega
        · rw [(putPart_len _ _ _).1]; simp [fresh]; omega
        · have h9 := sum120 (putPart (fresh fr t now) (byteAt t 1) (part t)).parts (fun y hy => by
            unfold putPart at hy
            split at hy
            · rw [List.eq_of_mem_replicate hy]; decide
            · rcases List.mem_or_eq_of_mem_set hy with h | h
              · rw [List.eq_of_mem_replicate h]; decide
              · rw [h]; exact hp)
          rw [(put_len _ _ _).1] at h9
          simp only [fresh, List.length_replicate] at h9
          simp only [fresh]; omega
      generalize hk : kIdx l fr t = k at *
      have hN : (∀ (hil : k < l.length), l[k].cnt ≠ byteAt t 2) → szHelds (addP l fr t now).1 ≤ 2097152 := fun hc => by
        subst hk
        rw [addP_new h h1 hc]
        have hz := sz_small (new_sz (r := l.eraseIdx (kIdx l fr t)) (fun z hz => hgood z (List.mem_of_mem_eraseIdx hz)) hnew)
        have h8 := new_len (l.eraseIdx (kIdx l fr t)) (putPart (fresh fr t now) (byteAt t 1) (part t))
        have h7 := List.length_eraseIdx_le l (kIdx l fr t)
        show szHelds (three _ ++ _) ≤ _
        omega
      rcases Nat.lt_or_ge k l.length with hil | hil
      · by_cases hcc : l[k].cnt = byteAt t 2
        · generalize hy : putPart l[k] (byteAt t 1) (part t) = y at *
          rcases Bool.eq_false_or_eq_true (y.hav.all id) with hf | hf
          · rw [addP_full h h1 hk hil hcc hy hf]; have := szHelds_erase l k; show szHelds (l.eraseIdx _) ≤ _; omega
          · rw [addP_set h h1 hk hil hcc hy hf]
            have hg := (hsg.rows _ hil hil).1
            have hcw := within_of hg.cnt
            have hy : szHeld y ≤ 2000 := by
              have h3 := hg.parts; have h4 := hg.hav
              subst hy
              exact sz_held (by rw [(putPart_len _ _ _).2]; omega) (by rw [(putPart_len _ _ _).1]; omega) (sz_put hg _ hp)
            have hz := sz_small (l := l.set k y) (fun z hz => by
              rcases List.mem_or_eq_of_mem_set hz with hm | hm
              · exact hgood z hm
              · rw [hm]; exact hy)
            rw [List.length_set] at hz
            show szHelds (l.set _ _) ≤ _
            omega
        · exact hN fun _ => hcc
      · exact hN fun hi => absurd hi (by omega)
  · rw [addP_bad h]; show szHelds l ≤ _; omega
end Go.Vm.S
namespace Go.Vm.S
open Go Go.Vm
set_option maxRecDepth 100000
set_option linter.unusedVariables false
set_option maxHeartbeats 4000000
theorem at77 : FnAt Pg 77 Go.Proofs.Try.f77 := ⟨by kernel_rfl, rfl, by decide⟩
theorem c_laws_eqBoolS (a b : List Bool) :
    Ctr Pg ty 77 [shv 1 (a.map boolC), shv 1 (b.map boolC)] [] (Gives (vv (.bool (decide (a = b)))) [] []) := by
  refine ctr at77 rfl (nsK_gives rfl trivial trivial) (Nat.le_of_ble_eq_true rfl) fun w0 S0 L0 Z => ?_
  refine vc_seq fun K1 hK1 => ?_
  refine vc_region ?_
  refine vl_q (q_assign rfl) (dk rfl) ?_
  refine vl_nil ?_
  refine hK1 _ ?_
  refine vc_seq fun K2 hK2 => ?_
  refine vc_seq fun K3 hK3 => ?_
  refine vc_fact (fun a w g => good_lim (x := .tmp 0) rfl g) fun hla => ?_
  refine vc_fact (fun a w g => good_lim (x := .tmp 1) rfl g) fun hlb => ?_
  rw [List.length_map] at hla hlb
  refine vc_region ?_
  refine vl_q (q_move rfl) (dk rfl) ?_
  refine vl_q (q_len_sh rfl rfl rfl) (dk rfl) ?_
  refine vl_q (q_move rfl) (dk rfl) ?_
  refine vl_q (q_len_sh rfl rfl rfl) (dk rfl) ?_
  refine vl_two (x := fun b => vv (.bool b)) _ (q_cmp rfl rfl rfl rfl) (dk rfl) (fun h10 => ?_) (fun h10 => ?_)
  · replace h10 := neq_of h10
    simp only [List.length_map] at h10
    refine vl_nil ?_
    refine hK3 _ ?_
    refine vc_cond_true rfl ?_
    refine vc_seq fun K4 hK4 => ?_
    refine vc_region ?_
    refine vl_q (q_assign rfl) (dk rfl) ?_
    refine vl_nil ?_
    refine hK4 _ ?_
    refine vc_ret ?_
    refine ret_p rfl (.cons (res_tmp rfl) .nil) rfl ?_
    rw [decide_eq_false (ne_of_len h10)]; rfl
  · replace h10 := neq_nof h10
    simp only [List.length_map] at h10
    refine vl_nil ?_
    refine hK3 _ ?_
    refine vc_cond_false rfl ?_
    refine vc_skip ?_
    refine hK2 _ ?_
    refine vc_seq fun K5 hK5 => ?_
    refine vc_seq fun K6 hK6 => ?_
    refine vc_region ?_
    refine vl_q (q_assign rfl) (dk rfl) ?_
    refine vl_nil ?_
    refine hK6 _ ?_
    refine vc_block ?_
    refine vc_loop (fun mz st => ∃ i : Nat, (i ≤ a.length ∧ a.length = b.length ∧ a.take i = b.take i) ∧ mz = a.length - i ∧ st = mkSt [(0, .v (shv 1 (a.map boolC))), (1, .v (shv 1 (b.map boolC))), (5, .v (iv i))] [] 16) ⟨_, _, ⟨0, ⟨by omega, by omega, rfl⟩, rfl, rfl⟩, (Weak.cut _ _ _ (Nat.le_of_ble_eq_true rfl) ⟨⟨rfl, rfl⟩, ⟨rfl, rfl⟩, ⟨rfl, rfl⟩, trivial⟩ trivial rfl)⟩ (fun mz st hI => ?_)
    obtain ⟨i, ⟨hi, hl, ht⟩, hmz, rfl⟩ := hI
    refine vc_seq fun K7 hK7 => ?_
    refine vc_seq fun K8 hK8 => ?_
    refine vc_region ?_
    refine vl_q (q_move rfl) (dk rfl) ?_
    refine vl_q (q_move rfl) (dk rfl) ?_
    refine vl_q (q_len_sh rfl rfl rfl) (dk rfl) ?_
    refine vl_two (x := fun b => vv (.bool b)) _ (q_cmp rfl rfl rfl rfl) (dk rfl) (fun h14 => ?_) (fun h14 => ?_)
    · replace h14 := lss_of h14
      simp only [List.length_map] at h14
      refine vl_nil ?_
      refine hK8 _ ?_
      refine vc_cond_true rfl ?_
      refine vc_skip ?_
      refine hK7 _ ?_
      refine vc_seq fun K9 hK9 => ?_
      refine vc_block ?_
      refine vc_seq fun K10 hK10 => ?_
      have hia : i < a.length := by omega
      have hib : i < b.length := by omega
      refine vc_region_any mixed (fun n => false) true rfl rfl (fun _ hU11 => hU11) fun w1 S1 L1 Z1 H1 => ?_
      refine va_q 0 rfl (by kernel_rfl) (by kernel_rfl) (by kernel_rfl) (q_move rfl) (dk rfl) ?_
      refine va_q 1 rfl (by kernel_rfl) (by kernel_rfl) (by kernel_rfl) (q_move rfl) (dk rfl) ?_
      refine va_q 2 rfl (by kernel_rfl) (by kernel_rfl) (by kernel_rfl) (q_indexAddr_sh rfl rfl rfl rfl rfl rfl (by decide) (by omega) (get_map (i := i) hia)) (dk rfl) ?_
      refine va_q 3 rfl (by kernel_rfl) (by kernel_rfl) (by kernel_rfl) (q_load_sp rfl rfl rfl rfl rfl (by decide)) (dk rfl) ?_
      refine va_q 4 rfl (by kernel_rfl) (by kernel_rfl) (by kernel_rfl) (q_move rfl) (dk rfl) ?_
      refine va_q 5 rfl (by kernel_rfl) (by kernel_rfl) (by kernel_rfl) (q_move rfl) (dk rfl) ?_
      refine va_q 6 rfl (by kernel_rfl) (by kernel_rfl) (by kernel_rfl) (q_indexAddr_sh rfl rfl rfl rfl rfl rfl (by decide) (by omega) (get_map (i := i) hib)) (dk rfl) ?_
      refine va_q 7 rfl (by kernel_rfl) (by kernel_rfl) (by kernel_rfl) (q_load_sp rfl rfl rfl rfl rfl (by decide)) (dk rfl) ?_
      refine va_two 8 (x := fun b => vv (.bool b)) _ rfl (by kernel_rfl) (by kernel_rfl) (by kernel_rfl) (q_cmpB rfl rfl rfl rfl (.inr rfl) rfl) (dk rfl) (fun h25 => ?_) (fun h25 => ?_)
      · replace h25 := neqB_of h25
        refine va_done (by kernel_rfl) ?_
        refine hK10 _ ?_
        refine vc_cond_true rfl ?_
        refine vc_seq fun K12 hK12 => ?_
        refine vc_region ?_
        refine vl_q (q_assign rfl) (dk rfl) ?_
        refine vl_nil ?_
        refine hK12 _ ?_
        refine vc_ret ?_
        refine ret_p rfl (.cons (res_tmp rfl) .nil) rfl ?_
        rw [decide_eq_false (ne_of_get hia hib h25)]; rfl
      · replace h25 := neqB_nof h25
        refine va_done (by kernel_rfl) ?_
        refine hK10 _ ?_
        refine vc_cond_false rfl ?_
        refine vc_skip ?_
        refine hK9 _ ?_
        refine vc_region ?_
        refine vl_q (q_move rfl) (dk rfl) ?_
        refine vl_q (q_add rfl rfl (IntWalk.i64_in _ (by omega))) (dk rfl) ?_
        refine vl_q (q_assign rfl) (dk rfl) ?_
        refine vl_nil ?_
        refine ⟨_, _, ?_, ⟨i + 1, ⟨by omega, hl, take_succ_eq ht hia hib h25⟩, rfl, rfl⟩, (Weak.cut _ _ _ (Nat.le_of_ble_eq_true rfl) ⟨⟨rfl, rfl⟩, ⟨rfl, rfl⟩, ⟨rfl, rfl⟩, trivial⟩ trivial rfl)⟩
        omega
    · replace h14 := lss_nof h14
      simp only [List.length_map] at h14
      refine vl_nil ?_
      refine hK8 _ ?_
      refine vc_cond_false rfl ?_
      refine vc_exit ?_
      refine hK5 _ ?_
      refine vc_seq fun K13 hK13 => ?_
      refine vc_region ?_
      refine vl_q (q_assign rfl) (dk rfl) ?_
      refine vl_nil ?_
      refine hK13 _ ?_
      refine vc_ret ?_
      refine ret_p rfl (.cons (res_tmp rfl) .nil) rfl ?_
      rw [decide_eq_true (take_all ht (by omega) (by omega))]; rfl
theorem at76 : FnAt Pg 76 Go.Proofs.Try.f76 := ⟨by kernel_rfl, rfl, by decide⟩
theorem c_laws_eqStringS (a b : List ByteArray) :
    Ctr Pg ty 76 [shv 1 (a.map strC), shv 1 (b.map strC)] [] (Gives (vv (.bool (decide (a = b)))) [] []) := by
  refine ctr at76 rfl (nsK_gives rfl trivial trivial) (Nat.le_of_ble_eq_true rfl) fun w0 S0 L0 Z => ?_
  refine vc_seq fun K1 hK1 => ?_
  refine vc_region ?_
  refine vl_q (q_assign rfl) (dk rfl) ?_
  refine vl_nil ?_
  refine hK1 _ ?_
  refine vc_seq fun K2 hK2 => ?_
  refine vc_seq fun K3 hK3 => ?_
  refine vc_fact (fun a w g => good_lim (x := .tmp 0) rfl g) fun hla => ?_
  refine vc_fact (fun a w g => good_lim (x := .tmp 1) rfl g) fun hlb => ?_
  rw [List.length_map] at hla hlb
  refine vc_region ?_
  refine vl_q (q_move rfl) (dk rfl) ?_
  refine vl_q (q_len_sh rfl rfl rfl) (dk rfl) ?_
  refine vl_q (q_move rfl) (dk rfl) ?_
  refine vl_q (q_len_sh rfl rfl rfl) (dk rfl) ?_
  refine vl_two (x := fun b => vv (.bool b)) _ (q_cmp rfl rfl rfl rfl) (dk rfl) (fun h10 => ?_) (fun h10 => ?_)
  · replace h10 := neq_of h10
    simp only [List.length_map] at h10
    refine vl_nil ?_
    refine hK3 _ ?_
    refine vc_cond_true rfl ?_
    refine vc_seq fun K4 hK4 => ?_
    refine vc_region ?_
    refine vl_q (q_assign rfl) (dk rfl) ?_
    refine vl_nil ?_
    refine hK4 _ ?_
    refine vc_ret ?_
    refine ret_p rfl (.cons (res_tmp rfl) .nil) rfl ?_
    rw [decide_eq_false (ne_of_len h10)]; rfl
  · replace h10 := neq_nof h10
    simp only [List.length_map] at h10
    refine vl_nil ?_
    refine hK3 _ ?_
    refine vc_cond_false rfl ?_
    refine vc_skip ?_
    refine hK2 _ ?_
    refine vc_seq fun K5 hK5 => ?_
    refine vc_seq fun K6 hK6 => ?_
    refine vc_region ?_
    refine vl_q (q_assign rfl) (dk rfl) ?_
    refine vl_nil ?_
    refine hK6 _ ?_
    refine vc_block ?_
    refine vc_loop (fun mz st => ∃ i : Nat, (i ≤ a.length ∧ a.length = b.length ∧ a.take i = b.take i) ∧ mz = a.length - i ∧ st = mkSt [(0, .v (shv 1 (a.map strC))), (1, .v (shv 1 (b.map strC))), (5, .v (iv i))] [] 16) ⟨_, _, ⟨0, ⟨by omega, by omega, rfl⟩, rfl, rfl⟩, (Weak.cut _ _ _ (Nat.le_of_ble_eq_true rfl) ⟨⟨rfl, rfl⟩, ⟨rfl, rfl⟩, ⟨rfl, rfl⟩, trivial⟩ trivial rfl)⟩ (fun mz st hI => ?_)
    obtain ⟨i, ⟨hi, hl, ht⟩, hmz, rfl⟩ := hI
    refine vc_seq fun K7 hK7 => ?_
    refine vc_seq fun K8 hK8 => ?_
    refine vc_region ?_
    refine vl_q (q_move rfl) (dk rfl) ?_
    refine vl_q (q_move rfl) (dk rfl) ?_
    refine vl_q (q_len_sh rfl rfl rfl) (dk rfl) ?_
    refine vl_two (x := fun b => vv (.bool b)) _ (q_cmp rfl rfl rfl rfl) (dk rfl) (fun h14 => ?_) (fun h14 => ?_)
    · replace h14 := lss_of h14
      simp only [List.length_map] at h14
      refine vl_nil ?_
      refine hK8 _ ?_
      refine vc_cond_true rfl ?_
      refine vc_skip ?_
      refine hK7 _ ?_
      refine vc_seq fun K9 hK9 => ?_
      refine vc_block ?_
      refine vc_seq fun K10 hK10 => ?_
      have hia : i < a.length := by omega
      have hib : i < b.length := by omega
      refine vc_region_any mixed (fun n => false) true rfl rfl (fun _ hU11 => hU11) fun w1 S1 L1 Z1 H1 => ?_
      refine va_q 0 rfl (by kernel_rfl) (by kernel_rfl) (by kernel_rfl) (q_move rfl) (dk rfl) ?_
      refine va_q 1 rfl (by kernel_rfl) (by kernel_rfl) (by kernel_rfl) (q_move rfl) (dk rfl) ?_
      refine va_q 2 rfl (by kernel_rfl) (by kernel_rfl) (by kernel_rfl) (q_indexAddr_sh rfl rfl rfl rfl rfl rfl (by decide) (by omega) (get_map (i := i) hia)) (dk rfl) ?_
      refine va_q 3 rfl (by kernel_rfl) (by kernel_rfl) (by kernel_rfl) (q_load_sp rfl rfl rfl rfl rfl (by decide)) (dk rfl) ?_
      refine va_q 4 rfl (by kernel_rfl) (by kernel_rfl) (by kernel_rfl) (q_move rfl) (dk rfl) ?_
      refine va_q 5 rfl (by kernel_rfl) (by kernel_rfl) (by kernel_rfl) (q_move rfl) (dk rfl) ?_
      refine va_q 6 rfl (by kernel_rfl) (by kernel_rfl) (by kernel_rfl) (q_indexAddr_sh rfl rfl rfl rfl rfl rfl (by decide) (by omega) (get_map (i := i) hib)) (dk rfl) ?_
      refine va_q 7 rfl (by kernel_rfl) (by kernel_rfl) (by kernel_rfl) (q_load_sp rfl rfl rfl rfl rfl (by decide)) (dk rfl) ?_
      refine va_two 8 (x := fun b => vv (.bool b)) _ rfl (by kernel_rfl) (by kernel_rfl) (by kernel_rfl) (q_cmpS rfl rfl (.inr rfl) rfl) (dk rfl) (fun h25 => ?_) (fun h25 => ?_)
      · replace h25 := neqS_of h25
        refine va_done (by kernel_rfl) ?_
        refine hK10 _ ?_
        refine vc_cond_true rfl ?_
        refine vc_seq fun K12 hK12 => ?_
        refine vc_region ?_
        refine vl_q (q_assign rfl) (dk rfl) ?_
        refine vl_nil ?_
        refine hK12 _ ?_
        refine vc_ret ?_
        refine ret_p rfl (.cons (res_tmp rfl) .nil) rfl ?_
        rw [decide_eq_false (ne_of_get hia hib h25)]; rfl
      · replace h25 := neqS_nof h25
        refine va_done (by kernel_rfl) ?_
        refine hK10 _ ?_
        refine vc_cond_false rfl ?_
        refine vc_skip ?_
        refine hK9 _ ?_
        refine vc_region ?_
        refine vl_q (q_move rfl) (dk rfl) ?_
        refine vl_q (q_add rfl rfl (IntWalk.i64_in _ (by omega))) (dk rfl) ?_
        refine vl_q (q_assign rfl) (dk rfl) ?_
        refine vl_nil ?_
        refine ⟨_, _, ?_, ⟨i + 1, ⟨by omega, hl, take_succ_eq ht hia hib h25⟩, rfl, rfl⟩, (Weak.cut _ _ _ (Nat.le_of_ble_eq_true rfl) ⟨⟨rfl, rfl⟩, ⟨rfl, rfl⟩, ⟨rfl, rfl⟩, trivial⟩ trivial rfl)⟩
        omega
    · replace h14 := lss_nof h14
      simp only [List.length_map] at h14
      refine vl_nil ?_
      refine hK8 _ ?_
      refine vc_cond_false rfl ?_
      refine vc_exit ?_
      refine hK5 _ ?_
      refine vc_seq fun K13 hK13 => ?_
      refine vc_region ?_
      refine vl_q (q_assign rfl) (dk rfl) ?_
      refine vl_nil ?_
      refine hK13 _ ?_
      refine vc_ret ?_
      refine ret_p rfl (.cons (res_tmp rfl) .nil) rfl ?_
      rw [decide_eq_true (take_all ht (by omega) (by omega))]; rfl
theorem at64 : FnAt Pg 64 Go.Proofs.Try.f64 := ⟨by kernel_rfl, rfl, by decide⟩
theorem c_laws_eqHeld (a b : Held) :
    Ctr Pg ty 64 [.agg ((heldC a).map X.c), .agg ((heldC b).map X.c)] [] (Gives (vv (.bool (decide (a = b)))) [] []) := by
  refine ctr at64 rfl (nsK_gives rfl trivial trivial) (Nat.le_of_ble_eq_true rfl) fun w0 S0 L0 Z => ?_
  refine vc_seq fun K1 hK1 => ?_
  refine vc_region ?_
  refine vl_box rfl (dk rfl) ?_
  refine vl_box rfl (dk rfl) ?_
  refine vl_q (q_assign rfl) (dk rfl) ?_
  refine vl_nil ?_
  refine hK1 _ ?_
  refine vc_seq fun K2 hK2 => ?_
  refine vc_seq fun K3 hK3 => ?_
  refine vc_region ?_
  refine vl_q (q_fieldAddr 0 rfl rfl rfl rfl (by decide) rfl rfl) (dk rfl) ?_
  refine vl_load rfl rfl rfl rfl rfl rfl rfl (by decide) (dk rfl) ?_
  refine vl_q (q_fieldAddr 0 rfl rfl rfl rfl (by decide) rfl rfl) (dk rfl) ?_
  refine vl_load rfl rfl rfl rfl rfl rfl rfl (by decide) (dk rfl) ?_
  refine vl_two (x := fun b => vv (.bool b)) _ (q_cmp rfl rfl rfl rfl) (dk rfl) (fun h9 => ?_) (fun h9 => ?_)
  · replace h9 := neq_of h9
    refine vl_nil ?_
    refine hK3 _ ?_
    refine vc_cond_true rfl ?_
    refine vc_seq fun K4 hK4 => ?_
    refine vc_region ?_
    refine vl_q (q_assign rfl) (dk rfl) ?_
    refine vl_nil ?_
    refine hK4 _ ?_
    refine vc_ret ?_
    refine ret_p rfl (.cons (res_tmp rfl) .nil) rfl ?_
    first | (rw [decide_eq_true (held_ext h9 h14 h19 h24 h30 h36)]; rfl) | (rw [decide_eq_false (fun e => by subst e; simp_all)]; rfl)
  · replace h9 := neq_nof h9
    refine vl_nil ?_
    refine hK3 _ ?_
    refine vc_cond_false rfl ?_
    refine vc_skip ?_
    refine hK2 _ ?_
    refine vc_seq fun K5 hK5 => ?_
    refine vc_seq fun K6 hK6 => ?_
    refine vc_region ?_
    refine vl_q (q_fieldAddr 1 rfl rfl rfl rfl (by decide) rfl rfl) (dk rfl) ?_
    refine vl_load rfl rfl rfl rfl rfl rfl rfl (by decide) (dk rfl) ?_
    refine vl_q (q_fieldAddr 1 rfl rfl rfl rfl (by decide) rfl rfl) (dk rfl) ?_
    refine vl_load rfl rfl rfl rfl rfl rfl rfl (by decide) (dk rfl) ?_
    refine vl_two (x := fun b => vv (.bool b)) _ (q_cmp rfl rfl rfl rfl) (dk rfl) (fun h14 => ?_) (fun h14 => ?_)
    · replace h14 := neq_of h14
      refine vl_nil ?_
      refine hK6 _ ?_
      refine vc_cond_true rfl ?_
      refine vc_seq fun K7 hK7 => ?_
      refine vc_region ?_
      refine vl_q (q_assign rfl) (dk rfl) ?_
      refine vl_nil ?_
      refine hK7 _ ?_
      refine vc_ret ?_
      refine ret_p rfl (.cons (res_tmp rfl) .nil) rfl ?_
      first | (rw [decide_eq_true (held_ext h9 h14 h19 h24 h30 h36)]; rfl) | (rw [decide_eq_false (fun e => by subst e; simp_all)]; rfl)
    · replace h14 := neq_nof h14
      refine vl_nil ?_
      refine hK6 _ ?_
      refine vc_cond_false rfl ?_
      refine vc_skip ?_
      refine hK5 _ ?_
      refine vc_seq fun K8 hK8 => ?_
      refine vc_seq fun K9 hK9 => ?_
      refine vc_region ?_
      refine vl_q (q_fieldAddr 2 rfl rfl rfl rfl (by decide) rfl rfl) (dk rfl) ?_
      refine vl_load rfl rfl rfl rfl rfl rfl rfl (by decide) (dk rfl) ?_
      refine vl_q (q_fieldAddr 2 rfl rfl rfl rfl (by decide) rfl rfl) (dk rfl) ?_
      refine vl_load rfl rfl rfl rfl rfl rfl rfl (by decide) (dk rfl) ?_
      refine vl_two (x := fun b => vv (.bool b)) _ (q_cmp rfl rfl rfl rfl) (dk rfl) (fun h19 => ?_) (fun h19 => ?_)
      · replace h19 := neq_of h19
        refine vl_nil ?_
        refine hK9 _ ?_
        refine vc_cond_true rfl ?_
        refine vc_seq fun K10 hK10 => ?_
        refine vc_region ?_
        refine vl_q (q_assign rfl) (dk rfl) ?_
        refine vl_nil ?_
        refine hK10 _ ?_
        refine vc_ret ?_
        refine ret_p rfl (.cons (res_tmp rfl) .nil) rfl ?_
        first | (rw [decide_eq_true (held_ext h9 h14 h19 h24 h30 h36)]; rfl) | (rw [decide_eq_false (fun e => by subst e; simp_all)]; rfl)
      · replace h19 := neq_nof h19
        refine vl_nil ?_
        refine hK9 _ ?_
        refine vc_cond_false rfl ?_
        refine vc_skip ?_
        refine hK8 _ ?_
        refine vc_seq fun K11 hK11 => ?_
        refine vc_seq fun K12 hK12 => ?_
        refine vc_region ?_
        refine vl_q (q_fieldAddr 3 rfl rfl rfl rfl (by decide) rfl rfl) (dk rfl) ?_
        refine vl_load rfl rfl rfl rfl rfl rfl rfl (by decide) (dk rfl) ?_
        refine vl_q (q_fieldAddr 3 rfl rfl rfl rfl (by decide) rfl rfl) (dk rfl) ?_
        refine vl_load rfl rfl rfl rfl rfl rfl rfl (by decide) (dk rfl) ?_
        refine vl_callP (c_laws_eqStringS a.parts b.parts) rfl rfl ⟨XOk.shc _ _, XOk.shc _ _, trivial⟩ rfl (.inl rfl) (dk rfl) ?_
        refine vl_bool 24 rfl (fun h24 => ?_) (fun h24 => ?_)
        · have h24 := of_decide_eq_true h24
          refine vl_q (q_not rfl) (dk rfl) ?_
          refine vl_nil ?_
          refine hK12 _ ?_
          refine vc_cond_false rfl ?_
          refine vc_skip ?_
          refine hK11 _ ?_
          refine vc_seq fun K13 hK13 => ?_
          refine vc_seq fun K14 hK14 => ?_
          refine vc_region ?_
          refine vl_q (q_fieldAddr 4 rfl rfl rfl rfl (by decide) rfl rfl) (dk rfl) ?_
          refine vl_load rfl rfl rfl rfl rfl rfl rfl (by decide) (dk rfl) ?_
          refine vl_q (q_fieldAddr 4 rfl rfl rfl rfl (by decide) rfl rfl) (dk rfl) ?_
          refine vl_load rfl rfl rfl rfl rfl rfl rfl (by decide) (dk rfl) ?_
          refine vl_callP (c_laws_eqBoolS a.hav b.hav) rfl rfl ⟨XOk.shc _ _, XOk.shc _ _, trivial⟩ rfl (.inl rfl) (dk rfl) ?_
          refine vl_bool 30 rfl (fun h30 => ?_) (fun h30 => ?_)
          · have h30 := of_decide_eq_true h30
            refine vl_q (q_not rfl) (dk rfl) ?_
            refine vl_nil ?_
            refine hK14 _ ?_
            refine vc_cond_false rfl ?_
            refine vc_skip ?_
            refine hK13 _ ?_
            refine vc_seq fun K15 hK15 => ?_
            refine vc_seq fun K16 hK16 => ?_
            refine vc_region ?_
            refine vl_q (q_fieldAddr 5 rfl rfl rfl rfl (by decide) rfl rfl) (dk rfl) ?_
            refine vl_load rfl rfl rfl rfl rfl rfl rfl (by decide) (dk rfl) ?_
            refine vl_q (q_fieldAddr 5 rfl rfl rfl rfl (by decide) rfl rfl) (dk rfl) ?_
            refine vl_load rfl rfl rfl rfl rfl rfl rfl (by decide) (dk rfl) ?_
            refine vl_two (x := fun b => vv (.bool b)) _ (q_cmp rfl rfl rfl rfl) (dk rfl) (fun h36 => ?_) (fun h36 => ?_)
            · replace h36 := neq_of h36
              refine vl_nil ?_
              refine hK16 _ ?_
              refine vc_cond_true rfl ?_
              refine vc_seq fun K17 hK17 => ?_
              refine vc_region ?_
              refine vl_q (q_assign rfl) (dk rfl) ?_
              refine vl_nil ?_
              refine hK17 _ ?_
              refine vc_ret ?_
              refine ret_p rfl (.cons (res_tmp rfl) .nil) rfl ?_
              first | (rw [decide_eq_true (held_ext h9 h14 h19 h24 h30 h36)]; rfl) | (rw [decide_eq_false (fun e => by subst e; simp_all)]; rfl)
            · replace h36 := neq_nof h36
              refine vl_nil ?_
              refine hK16 _ ?_
              refine vc_cond_false rfl ?_
              refine vc_skip ?_
              refine hK15 _ ?_
              refine vc_seq fun K18 hK18 => ?_
              refine vc_region ?_
              refine vl_q (q_assign rfl) (dk rfl) ?_
              refine vl_nil ?_
              refine hK18 _ ?_
              refine vc_ret ?_
              refine ret_p rfl (.cons (res_tmp rfl) .nil) rfl ?_
              first | (rw [decide_eq_true (held_ext h9 h14 h19 h24 h30 h36)]; rfl) | (rw [decide_eq_false (fun e => by subst e; simp_all)]; rfl)
          · have h30 := of_decide_eq_false h30
            refine vl_q (q_not rfl) (dk rfl) ?_
            refine vl_nil ?_
            refine hK14 _ ?_
            refine vc_cond_true rfl ?_
            refine vc_seq fun K19 hK19 => ?_
            refine vc_region ?_
            refine vl_q (q_assign rfl) (dk rfl) ?_
            refine vl_nil ?_
            refine hK19 _ ?_
            refine vc_ret ?_
            refine ret_p rfl (.cons (res_tmp rfl) .nil) rfl ?_
            first | (rw [decide_eq_true (held_ext h9 h14 h19 h24 h30 h36)]; rfl) | (rw [decide_eq_false (fun e => by subst e; simp_all)]; rfl)
        · have h24 := of_decide_eq_false h24
          refine vl_q (q_not rfl) (dk rfl) ?_
          refine vl_nil ?_
          refine hK12 _ ?_
          refine vc_cond_true rfl ?_
          refine vc_seq fun K20 hK20 => ?_
          refine vc_region ?_
          refine vl_q (q_assign rfl) (dk rfl) ?_
          refine vl_nil ?_
          refine hK20 _ ?_
          refine vc_ret ?_
          refine ret_p rfl (.cons (res_tmp rfl) .nil) rfl ?_
          first | (rw [decide_eq_true (held_ext h9 h14 h19 h24 h30 h36)]; rfl) | (rw [decide_eq_false (fun e => by subst e; simp_all)]; rfl)
theorem at45 : FnAt Pg 45 Go.Proofs.Try.f45 := ⟨by kernel_rfl, rfl, by decide⟩
theorem c_laws_eqHeldS (a b : List Held) :
    Ctr Pg ty 45 [shv 6 (a.map heldC), shv 6 (b.map heldC)] [] (Gives (vv (.bool (decide (a = b)))) [] []) := by
  refine ctr at45 rfl (nsK_gives rfl trivial trivial) (Nat.le_of_ble_eq_true rfl) fun w0 S0 L0 Z => ?_
  refine vc_seq fun K1 hK1 => ?_
  refine vc_region ?_
  refine vl_q (q_assign rfl) (dk rfl) ?_
  refine vl_nil ?_
  refine hK1 _ ?_
  refine vc_seq fun K2 hK2 => ?_
  refine vc_seq fun K3 hK3 => ?_
  refine vc_fact (fun a w g => good_lim (x := .tmp 0) rfl g) fun hla => ?_
  refine vc_fact (fun a w g => good_lim (x := .tmp 1) rfl g) fun hlb => ?_
  rw [List.length_map] at hla hlb
  refine vc_region ?_
  refine vl_q (q_move rfl) (dk rfl) ?_
  refine vl_q (q_len_sh rfl rfl rfl) (dk rfl) ?_
  refine vl_q (q_move rfl) (dk rfl) ?_
  refine vl_q (q_len_sh rfl rfl rfl) (dk rfl) ?_
  refine vl_two (x := fun b => vv (.bool b)) _ (q_cmp rfl rfl rfl rfl) (dk rfl) (fun h10 => ?_) (fun h10 => ?_)
  · replace h10 := neq_of h10
    simp only [List.length_map] at h10
    refine vl_nil ?_
    refine hK3 _ ?_
    refine vc_cond_true rfl ?_
    refine vc_seq fun K4 hK4 => ?_
    refine vc_region ?_
    refine vl_q (q_assign rfl) (dk rfl) ?_
    refine vl_nil ?_
    refine hK4 _ ?_
    refine vc_ret ?_
    refine ret_p rfl (.cons (res_tmp rfl) .nil) rfl ?_
    rw [decide_eq_false (ne_of_len h10)]; rfl
  · replace h10 := neq_nof h10
    simp only [List.length_map] at h10
    refine vl_nil ?_
    refine hK3 _ ?_
    refine vc_cond_false rfl ?_
    refine vc_skip ?_
    refine hK2 _ ?_
    refine vc_seq fun K5 hK5 => ?_
    refine vc_seq fun K6 hK6 => ?_
    refine vc_region ?_
    refine vl_q (q_assign rfl) (dk rfl) ?_
    refine vl_nil ?_
    refine hK6 _ ?_
    refine vc_block ?_
    refine vc_loop (fun mz st => ∃ i : Nat, (i ≤ a.length ∧ a.length = b.length ∧ a.take i = b.take i) ∧ mz = a.length - i ∧ st = mkSt [(0, .v (shv 6 (a.map heldC))), (1, .v (shv 6 (b.map heldC))), (5, .v (iv i))] [] 16) ⟨_, _, ⟨0, ⟨by omega, by omega, rfl⟩, rfl, rfl⟩, (Weak.cut _ _ _ (Nat.le_of_ble_eq_true rfl) ⟨⟨rfl, rfl⟩, ⟨rfl, rfl⟩, ⟨rfl, rfl⟩, trivial⟩ trivial rfl)⟩ (fun mz st hI => ?_)
    obtain ⟨i, ⟨hi, hl, ht⟩, hmz, rfl⟩ := hI
    refine vc_seq fun K7 hK7 => ?_
    refine vc_seq fun K8 hK8 => ?_
    refine vc_region ?_
    refine vl_q (q_move rfl) (dk rfl) ?_
    refine vl_q (q_move rfl) (dk rfl) ?_
    refine vl_q (q_len_sh rfl rfl rfl) (dk rfl) ?_
    refine vl_two (x := fun b => vv (.bool b)) _ (q_cmp rfl rfl rfl rfl) (dk rfl) (fun h14 => ?_) (fun h14 => ?_)
    · replace h14 := lss_of h14
      simp only [List.length_map] at h14
      refine vl_nil ?_
      refine hK8 _ ?_
      refine vc_cond_true rfl ?_
      refine vc_skip ?_
      refine hK7 _ ?_
      refine vc_seq fun K9 hK9 => ?_
      refine vc_block ?_
      refine vc_seq fun K10 hK10 => ?_
      have hia : i < a.length := by omega
      have hib : i < b.length := by omega
      refine vc_region_any mixed (fun n => false) true rfl rfl (fun _ hU11 => hU11) fun w1 S1 L1 Z1 H1 => ?_
      refine va_q 0 rfl (by kernel_rfl) (by kernel_rfl) (by kernel_rfl) (q_move rfl) (dk rfl) ?_
      refine va_q 1 rfl (by kernel_rfl) (by kernel_rfl) (by kernel_rfl) (q_move rfl) (dk rfl) ?_
      refine va_q 2 rfl (by kernel_rfl) (by kernel_rfl) (by kernel_rfl) (q_indexAddr_sh rfl rfl rfl rfl rfl rfl (by decide) (by omega) (get_map (i := i) hia)) (dk rfl) ?_
      refine va_q 3 rfl (by kernel_rfl) (by kernel_rfl) (by kernel_rfl) (q_load_sp rfl rfl rfl rfl rfl (by decide)) (dk rfl) ?_
      refine va_q 4 rfl (by kernel_rfl) (by kernel_rfl) (by kernel_rfl) (q_move rfl) (dk rfl) ?_
      refine va_q 5 rfl (by kernel_rfl) (by kernel_rfl) (by kernel_rfl) (q_move rfl) (dk rfl) ?_
      refine va_q 6 rfl (by kernel_rfl) (by kernel_rfl) (by kernel_rfl) (q_indexAddr_sh rfl rfl rfl rfl rfl rfl (by decide) (by omega) (get_map (i := i) hib)) (dk rfl) ?_
      refine va_q 7 rfl (by kernel_rfl) (by kernel_rfl) (by kernel_rfl) (q_load_sp rfl rfl rfl rfl rfl (by decide)) (dk rfl) ?_
      refine va_all [8] (by kernel_rfl) (by simp) ⟨⟨_, rfl, ?_⟩, trivial⟩
      refine vl_callP (c_laws_eqHeld a[i] b[i]) rfl rfl ⟨VOk.agg ⟨XOk.val _, XOk.val _, XOk.val _, XOk.shc _ _, XOk.shc _ _, XOk.val _, trivial⟩, VOk.agg ⟨XOk.val _, XOk.val _, XOk.val _, XOk.shc _ _, XOk.shc _ _, XOk.val _, trivial⟩, trivial⟩ rfl (.inr rfl) (dk rfl) ?_
      refine vl_bool 25 rfl (fun h25 => ?_) (fun h25 => ?_)
      · have h25 := of_decide_eq_true h25
        refine vl_nil ?_
        refine va_q 9 rfl (by kernel_rfl) (by kernel_rfl) (by kernel_rfl) (q_not rfl) (dk rfl) ?_
        refine va_done (by kernel_rfl) ?_
        refine hK10 _ ?_
        refine vc_cond_false rfl ?_
        refine vc_skip ?_
        refine hK9 _ ?_
        refine vc_region ?_
        refine vl_q (q_move rfl) (dk rfl) ?_
        refine vl_q (q_add rfl rfl (IntWalk.i64_in _ (by omega))) (dk rfl) ?_
        refine vl_q (q_assign rfl) (dk rfl) ?_
        refine vl_nil ?_
        refine ⟨_, _, ?_, ⟨i + 1, ⟨by omega, hl, take_succ_eq ht hia hib h25⟩, rfl, rfl⟩, (Weak.cut _ _ _ (Nat.le_of_ble_eq_true rfl) ⟨⟨rfl, rfl⟩, ⟨rfl, rfl⟩, ⟨rfl, rfl⟩, trivial⟩ trivial rfl)⟩
        omega
      · have h25 := of_decide_eq_false h25
        refine vl_nil ?_
        refine va_q 9 rfl (by kernel_rfl) (by kernel_rfl) (by kernel_rfl) (q_not rfl) (dk rfl) ?_
        refine va_done (by kernel_rfl) ?_
        refine hK10 _ ?_
        refine vc_cond_true rfl ?_
        refine vc_seq fun K12 hK12 => ?_
        refine vc_region ?_
        refine vl_q (q_assign rfl) (dk rfl) ?_
        refine vl_nil ?_
        refine hK12 _ ?_
        refine vc_ret ?_
        refine ret_p rfl (.cons (res_tmp rfl) .nil) rfl ?_
        rw [decide_eq_false (ne_of_get hia hib h25)]; rfl
    · replace h14 := lss_nof h14
      simp only [List.length_map] at h14
      refine vl_nil ?_
      refine hK8 _ ?_
      refine vc_cond_false rfl ?_
      refine vc_exit ?_
      refine hK5 _ ?_
      refine vc_seq fun K13 hK13 => ?_
      refine vc_region ?_
      refine vl_q (q_assign rfl) (dk rfl) ?_
      refine vl_nil ?_
      refine hK13 _ ?_
      refine vc_ret ?_
      refine ret_p rfl (.cons (res_tmp rfl) .nil) rfl ?_
      rw [decide_eq_true (take_all ht (by omega) (by omega))]; rfl
theorem at20 : FnAt Pg 20 Go.Proofs.Try.f20 := ⟨by kernel_rfl, rfl, by decide⟩
theorem c_laws_eqShelf (a b : List Held) :
    Ctr Pg ty 20 [.agg ((shelfC a).map X.c), .agg ((shelfC b).map X.c)] [] (Gives (vv (.bool (decide (a = b)))) [] []) := by
  refine ctr at20 rfl (nsK_gives rfl trivial trivial) (Nat.le_of_ble_eq_true rfl) fun w0 S0 L0 Z => ?_
  refine vc_seq fun K1 hK1 => ?_
  refine vc_region ?_
  refine vl_box rfl (dk rfl) ?_
  refine vl_box rfl (dk rfl) ?_
  refine vl_q (q_assign rfl) (dk rfl) ?_
  refine vl_nil ?_
  refine hK1 _ ?_
  refine vc_seq fun K2 hK2 => ?_
  refine vc_seq fun K3 hK3 => ?_
  refine vc_region ?_
  refine vl_q (q_fieldAddr 0 rfl rfl rfl rfl (by decide) rfl rfl) (dk rfl) ?_
  refine vl_load rfl rfl rfl rfl rfl rfl rfl (by decide) (dk rfl) ?_
  refine vl_q (q_fieldAddr 0 rfl rfl rfl rfl (by decide) rfl rfl) (dk rfl) ?_
  refine vl_load rfl rfl rfl rfl rfl rfl rfl (by decide) (dk rfl) ?_
  refine vl_callP (c_laws_eqHeldS a b) rfl rfl ⟨XOk.shc _ _, XOk.shc _ _, trivial⟩ rfl (.inl rfl) (dk rfl) ?_
  refine vl_bool 9 rfl (fun h9 => ?_) (fun h9 => ?_)
  · have h9 := of_decide_eq_true h9
    refine vl_q (q_not rfl) (dk rfl) ?_
    refine vl_nil ?_
    refine hK3 _ ?_
    refine vc_cond_false rfl ?_
    refine vc_skip ?_
    refine hK2 _ ?_
    refine vc_seq fun K4 hK4 => ?_
    refine vc_region ?_
    refine vl_q (q_assign rfl) (dk rfl) ?_
    refine vl_nil ?_
    refine hK4 _ ?_
    refine vc_ret ?_
    refine ret_p rfl (.cons (res_tmp rfl) .nil) rfl ?_
    first | (rw [decide_eq_true h9]; rfl) | (rw [decide_eq_false h9]; rfl)
  · have h9 := of_decide_eq_false h9
    refine vl_q (q_not rfl) (dk rfl) ?_
    refine vl_nil ?_
    refine hK3 _ ?_
    refine vc_cond_true rfl ?_
    refine vc_seq fun K5 hK5 => ?_
    refine vc_region ?_
    refine vl_q (q_assign rfl) (dk rfl) ?_
    refine vl_nil ?_
    refine hK5 _ ?_
    refine vc_ret ?_
    refine ret_p rfl (.cons (res_tmp rfl) .nil) rfl ?_
    first | (rw [decide_eq_true h9]; rfl) | (rw [decide_eq_false h9]; rfl)
end Go.Vm.S
namespace Go.Vm.S
open Go Go.Vm
set_option maxRecDepth 100000
set_option linter.unusedVariables false
set_option maxHeartbeats 4000000
theorem at78 : FnAt Pg 78 Go.Proofs.Try.f78 := ⟨by kernel_rfl, rfl, by decide⟩
theorem c_laws_markText (k : Int) (hk : 0 ≤ k ∧ k ≤ 1152921504606846976) :
    Ctr Pg ty 78 [iv k] [] (Gives (vv (.string (mtext k))) [] []) := by
  refine ctr at78 rfl (nsK_gives rfl trivial trivial) (Nat.le_of_ble_eq_true rfl) fun w0 S0 L0 Z => ?_
  refine vc_seq fun K1 hK1 => ?_
  refine vc_region ?_
  refine vl_q (q_assign rfl) (dk rfl) ?_
  refine vl_nil ?_
  refine hK1 _ ?_
  refine vc_seq fun K2 hK2 => ?_
  refine vc_seq fun K3 hK3 => ?_
  refine vc_region ?_
  refine vl_q (q_move rfl) (dk rfl) ?_
  refine vl_two (x := fun b => vv (.bool b)) _ (q_cmp rfl rfl rfl rfl) (dk rfl) (fun h5 => ?_) (fun h5 => ?_)
  · replace h5 := leq_of h5
    refine vl_nil ?_
    refine hK3 _ ?_
    refine vc_cond_true rfl ?_
    refine vc_seq fun K4 hK4 => ?_
    refine vc_region ?_
    refine vl_q (q_assign rfl) (dk rfl) ?_
    refine vl_nil ?_
    refine hK4 _ ?_
    refine vc_ret ?_
    refine ret_p rfl (.cons (res_tmp rfl) .nil) rfl ?_
    simp only [mtext, if_pos h5]; rfl
  · replace h5 := leq_nof h5
    refine vl_nil ?_
    refine hK3 _ ?_
    refine vc_cond_false rfl ?_
    refine vc_skip ?_
    refine hK2 _ ?_
    refine vc_seq fun K5 hK5 => ?_
    refine vc_region ?_
    refine vl_q (q_assign rfl) (dk rfl) ?_
    refine vl_nil ?_
    refine hK5 _ ?_
    refine vc_seq fun K6 hK6 => ?_
    refine vc_block ?_
    obtain ⟨n, rfl⟩ : ∃ n : Nat, k = n := ⟨k.toNat, by omega⟩
    refine vc_loop (fun mz st => ∃ q : Nat, ∃ out : ByteArray, (digs q out = digs n ⟨#[]⟩ ∧ out.size + q ≤ 1152921504606846976) ∧ mz = q ∧ st = mkSt [(0, .v (iv q)), (3, .v (sv out))] [] 16) ⟨_, _, ⟨n, ⟨#[]⟩, ⟨rfl, by show 0 + n ≤ _; omega⟩, rfl, rfl⟩, (Weak.cut _ _ _ (Nat.le_of_ble_eq_true rfl) ⟨⟨rfl, rfl⟩, ⟨rfl, rfl⟩, trivial⟩ trivial rfl)⟩ (fun mz st hI => ?_)
    obtain ⟨q, out, ⟨hd, hs⟩, hmz, rfl⟩ := hI
    refine vc_seq fun K7 hK7 => ?_
    refine vc_seq fun K8 hK8 => ?_
    refine vc_region ?_
    refine vl_q (q_move rfl) (dk rfl) ?_
    refine vl_two (x := fun b => vv (.bool b)) _ (q_cmp rfl rfl rfl rfl) (dk rfl) (fun h7 => ?_) (fun h7 => ?_)
    · replace h7 := gtr_of h7
      refine vl_nil ?_
      refine hK8 _ ?_
      refine vc_cond_true rfl ?_
      refine vc_skip ?_
      refine hK7 _ ?_
      refine vc_block ?_
      refine vc_seq fun K9 hK9 => ?_
      refine vc_region ?_
      refine vl_q (q_move rfl) (dk rfl) ?_
      refine vl_q (q_rem rfl rfl (by decide) (IntWalk.rem_in _ _ (by omega))) (dk rfl) ?_
      refine vl_q (q_add rfl rfl (IntWalk.i64_in _ (by omega))) (dk rfl) ?_
      refine vl_q (q_convInt rfl rfl rfl rfl (IntWalk.u8_in _ (by omega))) (dk rfl) ?_
      refine vl_bslice rfl rfl rfl rfl rfl rfl ⟨rfl, trivial⟩ (by decide) (by decide) (dk rfl) ?_
      refine vl_bytesStr (ns := [48 + (q : Int) % 10]) rfl rfl rfl rfl rfl rfl (src_hdr (nd := ⟨1, [byteX (48 + (q : Int) % 10)]⟩) (lo := 0) (n := 1) (xs := [48 + (q : Int) % 10].map byteX) rfl rfl (Nat.le_refl _) rfl (bytes_plain _) (bytes_wid _)) (hdr_shape rfl rfl) (dk rfl) ?_
      refine vl_q (q_move rfl) (dk rfl) ?_
      refine vl_q (q_cat rfl rfl (by rw [bstr_size1]; omega)) (dk rfl) ?_
      refine vl_q (q_assign rfl) (dk rfl) ?_
      refine vl_nil ?_
      refine hK9 _ ?_
      refine vc_region ?_
      refine vl_q (q_move rfl) (dk rfl) ?_
      refine vl_q (q_quo rfl rfl (by decide) (IntWalk.i64_quo _ _ (by omega))) (dk rfl) ?_
      refine vl_q (q_assign rfl) (dk rfl) ?_
      refine vl_nil ?_
      refine ⟨_, _, ?_, ⟨q / 10, bstr [48 + (q : Int) % 10] ++ out, ⟨by rw [← digs_pos (by omega)]; exact hd, by rw [ByteArray.size_append, bstr_size1]; omega⟩, rfl, rfl⟩, (Weak.cut _ _ _ (Nat.le_of_ble_eq_true rfl) ⟨⟨rfl, rfl⟩, ⟨rfl, rfl⟩, trivial⟩ trivial rfl)⟩
      omega
    · replace h7 := gtr_nof h7
      refine vl_nil ?_
      refine hK8 _ ?_
      refine vc_cond_false rfl ?_
      refine vc_exit ?_
      refine hK6 _ ?_
      refine vc_seq fun K10 hK10 => ?_
      refine vc_region ?_
      refine vl_q (q_move rfl) (dk rfl) ?_
      refine vl_q (q_cat rfl rfl (by show 1 + _ ≤ _; omega)) (dk rfl) ?_
      refine vl_q (q_assign rfl) (dk rfl) ?_
      refine vl_nil ?_
      refine hK10 _ ?_
      refine vc_ret ?_
      refine ret_p rfl (.cons (res_tmp rfl) .nil) rfl ?_
      have hq : q = 0 := by omega
      subst hq
      rw [digs_zero] at hd
      simp only [mtext, if_neg (show ¬ ((n : Int) ≤ 0) by omega), Int.toNat_natCast, ← hd]; rfl
theorem at66 : FnAt Pg 66 Go.Proofs.Try.f66 := ⟨by kernel_rfl, rfl, by decide⟩
theorem c_laws_markBoolS (l : List Bool) (k : Int) (hk : 0 ≤ k ∧ k + l.length ≤ 1152921504606846976) :
    Ctr Pg ty 66 [.one (.hdr 0 0 l.length), iv k] [⟨1, clo (l.map boolC)⟩] (Gives (vv (.int .i64 (k + l.length))) [] [⟨1, clo ((mkB k l.length).map boolC)⟩]) := by
  refine ctr at66 rfl (nsK_gives rfl trivial ⟨nsN_map boolC_noSh, trivial⟩) (Nat.le_of_ble_eq_true rfl) fun w0 S0 L0 Z => ?_
  refine vc_seq fun K1 hK1 => ?_
  refine vc_region ?_
  refine vl_q (q_assign rfl) (dk rfl) ?_
  refine vl_nil ?_
  refine hK1 _ ?_
  refine vc_seq fun K2 hK2 => ?_
  refine vc_seq fun K3 hK3 => ?_
  refine vc_region ?_
  refine vl_q (q_assign rfl) (dk rfl) ?_
  refine vl_nil ?_
  refine hK3 _ ?_
  refine vc_block ?_
  refine vc_loop (fun mz st => ∃ i : Nat, (i ≤ l.length) ∧ mz = l.length - i ∧ st = mkSt [(0, .v (.one (.hdr 0 0 l.length))), (1, .v (iv (k + i))), (5, .v (iv i))] [(0, ⟨1, clo ((over (mkB k l.length) l i).map boolC)⟩)] 16) ⟨_, _, ⟨0, by omega, rfl, rfl⟩, (Weak.cut _ _ _ (Nat.le_of_ble_eq_true rfl) ⟨⟨rfl, rfl⟩, ⟨iv_eq (by omega), rfl⟩, ⟨rfl, rfl⟩, trivial⟩ ⟨⟨Nat.le_of_ble_eq_true rfl, rfl, belN_clo _ _ _⟩, trivial⟩ rfl)⟩ (fun mz st hI => ?_)
  obtain ⟨i, hi, hmz, rfl⟩ := hI
  refine vc_seq fun K4 hK4 => ?_
  refine vc_seq fun K5 hK5 => ?_
  refine vc_region ?_
  refine vl_q (q_move rfl) (dk rfl) ?_
  refine vl_q (q_move rfl) (dk rfl) ?_
  refine vl_q (q_len_hdr rfl rfl rfl) (dk rfl) ?_
  refine vl_two (x := fun b => vv (.bool b)) _ (q_cmp rfl rfl rfl rfl) (dk rfl) (fun h9 => ?_) (fun h9 => ?_)
  · replace h9 := lss_of h9
    refine vl_nil ?_
    refine hK5 _ ?_
    refine vc_cond_true rfl ?_
    refine vc_skip ?_
    refine hK4 _ ?_
    refine vc_seq fun K6 hK6 => ?_
    refine vc_block ?_
    refine vc_seq fun K7 hK7 => ?_
    have hil : i < l.length := by omega
    refine vc_region ?_
    refine vl_q (q_move rfl) (dk rfl) ?_
    refine vl_q (q_move rfl) (dk rfl) ?_
    refine vl_q (q_move rfl) (dk rfl) ?_
    refine vl_q (q_rem rfl rfl (by decide) (IntWalk.rem_in _ _ (by omega))) (dk rfl) ?_
    refine vl_q (q_cmp rfl rfl rfl rfl) (dk rfl) ?_
    refine vl_q (q_indexAddr rfl rfl rfl rfl rfl rfl rfl (by omega) (by omega)) (dk rfl) ?_
    refine vl_store rfl rfl rfl rfl (over_get boolC (mkB_len k l.length) hil) rfl (Nat.le_of_ble_eq_true rfl) trivial ?_
    refine vl_nil ?_
    refine hK7 _ ?_
    refine vc_region ?_
    refine vl_q (q_move rfl) (dk rfl) ?_
    refine vl_q (q_add rfl rfl (IntWalk.i64_in _ (by omega))) (dk rfl) ?_
    refine vl_q (q_assign rfl) (dk rfl) ?_
    refine vl_nil ?_
    refine hK6 _ ?_
    refine vc_region ?_
    refine vl_q (q_move rfl) (dk rfl) ?_
    refine vl_q (q_add rfl rfl (IntWalk.i64_in _ (by omega))) (dk rfl) ?_
    refine vl_q (q_assign rfl) (dk rfl) ?_
    refine vl_nil ?_
    refine ⟨_, _, ?_, ⟨i + 1, by omega, rfl, rfl⟩, (Weak.cut _ _ _ (Nat.le_of_ble_eq_true rfl) ⟨⟨rfl, rfl⟩, ⟨iv_eq (by omega), rfl⟩, ⟨rfl, rfl⟩, trivial⟩ ⟨⟨Nat.le_of_ble_eq_true rfl, some_node (over_set boolC (mkB_len k l.length) hil (mkB_at k hil) rfl), belN_clo _ _ _⟩, trivial⟩ rfl)⟩
    omega
  · replace h9 := lss_nof h9
    refine vl_nil ?_
    refine hK5 _ ?_
    refine vc_cond_false rfl ?_
    refine vc_exit ?_
    refine hK2 _ ?_
    refine vc_seq fun K8 hK8 => ?_
    refine vc_region ?_
    refine vl_q (q_move rfl) (dk rfl) ?_
    refine vl_q (q_assign rfl) (dk rfl) ?_
    refine vl_nil ?_
    refine hK8 _ ?_
    refine vc_ret ?_
    refine ret_g [] rfl (.cons (res_tmp rfl) .nil) (by show T.v (V.one (X.c (C.val (Value.int IntKind.i64 _)))) = vv (.int .i64 _); congr 5; omega) rfl (nodupB_ok rfl) trivial trivial ⟨⟨_, some_node (congrArg (fun z => clo (List.map boolC z)) (over_full (mkB_len k l.length) (by omega))), NR.clo _ _ _ _⟩, trivial⟩ (Nat.le_of_ble_eq_true rfl)
theorem at65 : FnAt Pg 65 Go.Proofs.Try.f65 := ⟨by kernel_rfl, rfl, by decide⟩
theorem c_laws_markStringS (l : List ByteArray) (k : Int) (hk : 0 ≤ k ∧ k + l.length ≤ 1152921504606846976) :
    Ctr Pg ty 65 [.one (.hdr 0 0 l.length), iv k] [⟨1, clo (l.map strC)⟩] (Gives (vv (.int .i64 (k + l.length))) [] [⟨1, clo ((mkS k l.length).map strC)⟩]) := by
  refine ctr at65 rfl (nsK_gives rfl trivial ⟨nsN_map strC_noSh, trivial⟩) (Nat.le_of_ble_eq_true rfl) fun w0 S0 L0 Z => ?_
  refine vc_seq fun K1 hK1 => ?_
  refine vc_region ?_
  refine vl_q (q_assign rfl) (dk rfl) ?_
  refine vl_nil ?_
  refine hK1 _ ?_
  refine vc_seq fun K2 hK2 => ?_
  refine vc_seq fun K3 hK3 => ?_
  refine vc_region ?_
  refine vl_q (q_assign rfl) (dk rfl) ?_
  refine vl_nil ?_
  refine hK3 _ ?_
  refine vc_block ?_
  refine vc_loop (fun mz st => ∃ i : Nat, (i ≤ l.length) ∧ mz = l.length - i ∧ st = mkSt [(0, .v (.one (.hdr 0 0 l.length))), (1, .v (iv (k + i))), (5, .v (iv i))] [(0, ⟨1, clo ((over (mkS k l.length) l i).map strC)⟩)] 16) ⟨_, _, ⟨0, by omega, rfl, rfl⟩, (Weak.cut _ _ _ (Nat.le_of_ble_eq_true rfl) ⟨⟨rfl, rfl⟩, ⟨iv_eq (by omega), rfl⟩, ⟨rfl, rfl⟩, trivial⟩ ⟨⟨Nat.le_of_ble_eq_true rfl, rfl, belN_clo _ _ _⟩, trivial⟩ rfl)⟩ (fun mz st hI => ?_)
  obtain ⟨i, hi, hmz, rfl⟩ := hI
  refine vc_seq fun K4 hK4 => ?_
  refine vc_seq fun K5 hK5 => ?_
  refine vc_region ?_
  refine vl_q (q_move rfl) (dk rfl) ?_
  refine vl_q (q_move rfl) (dk rfl) ?_
  refine vl_q (q_len_hdr rfl rfl rfl) (dk rfl) ?_
  refine vl_two (x := fun b => vv (.bool b)) _ (q_cmp rfl rfl rfl rfl) (dk rfl) (fun h9 => ?_) (fun h9 => ?_)
  · replace h9 := lss_of h9
    refine vl_nil ?_
    refine hK5 _ ?_
    refine vc_cond_true rfl ?_
    refine vc_skip ?_
    refine hK4 _ ?_
    refine vc_seq fun K6 hK6 => ?_
    refine vc_block ?_
    refine vc_seq fun K7 hK7 => ?_
    have hil : i < l.length := by omega
    refine vc_region ?_
    refine vl_q (q_move rfl) (dk rfl) ?_
    refine vl_q (q_move rfl) (dk rfl) ?_
    refine vl_q (q_move rfl) (dk rfl) ?_
    refine vl_callP (c_laws_markText (k + i) (by omega)) rfl rfl ⟨XOk.val _, trivial⟩ rfl (.inl rfl) (dk rfl) ?_
    refine vl_q (q_indexAddr rfl rfl rfl rfl rfl rfl rfl (by omega) (by omega)) (dk rfl) ?_
    refine vl_store rfl rfl rfl rfl (over_get strC (mkS_len k l.length) hil) rfl (Nat.le_of_ble_eq_true rfl) trivial ?_
    refine vl_nil ?_
    refine hK7 _ ?_
    refine vc_region ?_
    refine vl_q (q_move rfl) (dk rfl) ?_
    refine vl_q (q_add rfl rfl (IntWalk.i64_in _ (by omega))) (dk rfl) ?_
    refine vl_q (q_assign rfl) (dk rfl) ?_
    refine vl_nil ?_
    refine hK6 _ ?_
    refine vc_region ?_
    refine vl_q (q_move rfl) (dk rfl) ?_
    refine vl_q (q_add rfl rfl (IntWalk.i64_in _ (by omega))) (dk rfl) ?_
    refine vl_q (q_assign rfl) (dk rfl) ?_
    refine vl_nil ?_
    refine ⟨_, _, ?_, ⟨i + 1, by omega, rfl, rfl⟩, (Weak.cut _ _ _ (Nat.le_of_ble_eq_true rfl) ⟨⟨rfl, rfl⟩, ⟨iv_eq (by omega), rfl⟩, ⟨rfl, rfl⟩, trivial⟩ ⟨⟨Nat.le_of_ble_eq_true rfl, some_node (over_set strC (mkS_len k l.length) hil (mkS_at k hil) rfl), belN_clo _ _ _⟩, trivial⟩ rfl)⟩
    omega
  · replace h9 := lss_nof h9
    refine vl_nil ?_
    refine hK5 _ ?_
    refine vc_cond_false rfl ?_
    refine vc_exit ?_
    refine hK2 _ ?_
    refine vc_seq fun K8 hK8 => ?_
    refine vc_region ?_
    refine vl_q (q_move rfl) (dk rfl) ?_
    refine vl_q (q_assign rfl) (dk rfl) ?_
    refine vl_nil ?_
    refine hK8 _ ?_
    refine vc_ret ?_
    refine ret_g [] rfl (.cons (res_tmp rfl) .nil) (by show T.v (V.one (X.c (C.val (Value.int IntKind.i64 _)))) = vv (.int .i64 _); congr 5; omega) rfl (nodupB_ok rfl) trivial trivial ⟨⟨_, some_node (congrArg (fun z => clo (List.map strC z)) (over_full (mkS_len k l.length) (by omega))), NR.clo _ _ _ _⟩, trivial⟩ (Nat.le_of_ble_eq_true rfl)
end Go.Vm.S
namespace Go.Vm.S
open Go Go.Vm
set_option maxRecDepth 100000
set_option linter.unusedVariables false
set_option maxHeartbeats 4000000
theorem at68 : FnAt Pg 68 Go.Proofs.Try.f68 := ⟨by kernel_rfl, rfl, by decide⟩
theorem c_laws_heldBoolS (l : List Bool) (k : Int) (hk : 0 ≤ k ∧ k + l.length ≤ 1152921504606846976) :
    Ctr Pg ty 68 [shv 1 (l.map boolC), iv k] [] (Gives (vv (.int .i64 (heldv (decide (l = mkB k l.length)) (k + l.length)))) [] []) := by
  refine ctr at68 rfl (nsK_gives rfl trivial trivial) (Nat.le_of_ble_eq_true rfl) fun w0 S0 L0 Z => ?_
  refine vc_seq fun K1 hK1 => ?_
  refine vc_region ?_
  refine vl_q (q_assign rfl) (dk rfl) ?_
  refine vl_nil ?_
  refine hK1 _ ?_
  refine vc_seq fun K2 hK2 => ?_
  refine vc_seq fun K3 hK3 => ?_
  refine vc_fact (fun a w g => good_lim (x := .tmp 0) rfl g) fun hlen => ?_
  rw [List.length_map] at hlen
  refine vc_region ?_
  refine vl_q (q_assign rfl) (dk rfl) ?_
  refine vl_nil ?_
  refine hK3 _ ?_
  refine vc_block ?_
  refine vc_loop (fun mz st => ∃ i : Nat, (i ≤ l.length ∧ l.take i = (mkB k l.length).take i) ∧ mz = l.length - i ∧ st = mkSt [(0, .v (shv 1 (l.map boolC))), (1, .v (iv (k + i))), (5, .v (iv i))] [] 16) ⟨_, _, ⟨0, ⟨by omega, rfl⟩, rfl, rfl⟩, (Weak.cut _ _ _ (Nat.le_of_ble_eq_true rfl) ⟨⟨rfl, rfl⟩, ⟨iv_eq (by omega), rfl⟩, ⟨rfl, rfl⟩, trivial⟩ trivial rfl)⟩ (fun mz st hI => ?_)
  obtain ⟨i, ⟨hi, ht⟩, hmz, rfl⟩ := hI
  refine vc_seq fun K4 hK4 => ?_
  refine vc_seq fun K5 hK5 => ?_
  refine vc_region ?_
  refine vl_q (q_move rfl) (dk rfl) ?_
  refine vl_q (q_move rfl) (dk rfl) ?_
  refine vl_q (q_len_sh rfl rfl rfl) (dk rfl) ?_
  refine vl_two (x := fun b => vv (.bool b)) _ (q_cmp rfl rfl rfl rfl) (dk rfl) (fun h9 => ?_) (fun h9 => ?_)
  · replace h9 := lss_of h9
    simp only [List.length_map] at h9
    refine vl_nil ?_
    refine hK5 _ ?_
    refine vc_cond_true rfl ?_
    refine vc_skip ?_
    refine hK4 _ ?_
    refine vc_seq fun K6 hK6 => ?_
    refine vc_block ?_
    refine vc_seq fun K7 hK7 => ?_
    refine vc_seq fun K8 hK8 => ?_
    have hil : i < l.length := by omega
    have hmi := mkB_at k hil
    refine vc_region ?_
    refine vl_q (q_move rfl) (dk rfl) ?_
    refine vl_q (q_move rfl) (dk rfl) ?_
    refine vl_q (q_indexAddr_sh rfl rfl rfl rfl rfl rfl (by decide) (by omega) (get_map (i := i) hil)) (dk rfl) ?_
    refine vl_load_sp rfl rfl rfl rfl (by decide) (dk rfl) ?_
    refine vl_q (q_move rfl) (dk rfl) ?_
    refine vl_q (q_rem rfl rfl (by decide) (IntWalk.rem_in _ _ (by omega))) (dk rfl) ?_
    refine vl_q (q_cmp rfl rfl rfl rfl) (dk rfl) ?_
    refine vl_two (x := fun b => vv (.bool b)) _ (q_cmpB rfl rfl rfl rfl (.inr rfl) rfl) (dk rfl) (fun h19 => ?_) (fun h19 => ?_)
    · replace h19 := neqB_of h19
      refine vl_nil ?_
      refine hK8 _ ?_
      refine vc_cond_true rfl ?_
      refine vc_seq fun K9 hK9 => ?_
      refine vc_region ?_
      refine vl_q (q_assign rfl) (dk rfl) ?_
      refine vl_nil ?_
      refine hK9 _ ?_
      refine vc_ret ?_
      refine ret_p rfl (.cons (res_tmp rfl) .nil) rfl ?_
      rw [heldv_f (decide_eq_false (ne_of_at hil hmi (by simpa [cmpv] using h19)))]; rfl
    · replace h19 := neqB_nof h19
      refine vl_nil ?_
      refine hK8 _ ?_
      refine vc_cond_false rfl ?_
      refine vc_skip ?_
      refine hK7 _ ?_
      refine vc_region ?_
      refine vl_q (q_move rfl) (dk rfl) ?_
      refine vl_q (q_add rfl rfl (IntWalk.i64_in _ (by omega))) (dk rfl) ?_
      refine vl_q (q_assign rfl) (dk rfl) ?_
      refine vl_nil ?_
      refine hK6 _ ?_
      refine vc_region ?_
      refine vl_q (q_move rfl) (dk rfl) ?_
      refine vl_q (q_add rfl rfl (IntWalk.i64_in _ (by omega))) (dk rfl) ?_
      refine vl_q (q_assign rfl) (dk rfl) ?_
      refine vl_nil ?_
      refine ⟨_, _, ?_, ⟨i + 1, ⟨by omega, take_succ_at ht hil hmi (by simpa [cmpv] using h19)⟩, rfl, rfl⟩, (Weak.cut _ _ _ (Nat.le_of_ble_eq_true rfl) ⟨⟨rfl, rfl⟩, ⟨iv_eq (by omega), rfl⟩, ⟨rfl, rfl⟩, trivial⟩ trivial rfl)⟩
      omega
  · replace h9 := lss_nof h9
    simp only [List.length_map] at h9
    refine vl_nil ?_
    refine hK5 _ ?_
    refine vc_cond_false rfl ?_
    refine vc_exit ?_
    refine hK2 _ ?_
    refine vc_seq fun K10 hK10 => ?_
    refine vc_region ?_
    refine vl_q (q_move rfl) (dk rfl) ?_
    refine vl_q (q_assign rfl) (dk rfl) ?_
    refine vl_nil ?_
    refine hK10 _ ?_
    refine vc_ret ?_
    refine ret_p rfl (.cons (res_tmp rfl) .nil) rfl ?_
    rw [heldv_t (decide_eq_true (take_all ht (by omega) (by rw [mkB_len]; omega)))]
    have : i = l.length := by omega
    subst this; rfl
theorem at67 : FnAt Pg 67 Go.Proofs.Try.f67 := ⟨by kernel_rfl, rfl, by decide⟩
theorem c_laws_heldStringS (l : List ByteArray) (k : Int) (hk : 0 ≤ k ∧ k + l.length ≤ 1152921504606846976) :
    Ctr Pg ty 67 [shv 1 (l.map strC), iv k] [] (Gives (vv (.int .i64 (heldv (decide (l = mkS k l.length)) (k + l.length)))) [] []) := by
  refine ctr at67 rfl (nsK_gives rfl trivial trivial) (Nat.le_of_ble_eq_true rfl) fun w0 S0 L0 Z => ?_
  refine vc_seq fun K1 hK1 => ?_
  refine vc_region ?_
  refine vl_q (q_assign rfl) (dk rfl) ?_
  refine vl_nil ?_
  refine hK1 _ ?_
  refine vc_seq fun K2 hK2 => ?_
  refine vc_seq fun K3 hK3 => ?_
  refine vc_fact (fun a w g => good_lim (x := .tmp 0) rfl g) fun hlen => ?_
  rw [List.length_map] at hlen
  refine vc_region ?_
  refine vl_q (q_assign rfl) (dk rfl) ?_
  refine vl_nil ?_
  refine hK3 _ ?_
  refine vc_block ?_
  refine vc_loop (fun mz st => ∃ i : Nat, (i ≤ l.length ∧ l.take i = (mkS k l.length).take i) ∧ mz = l.length - i ∧ st = mkSt [(0, .v (shv 1 (l.map strC))), (1, .v (iv (k + i))), (5, .v (iv i))] [] 16) ⟨_, _, ⟨0, ⟨by omega, rfl⟩, rfl, rfl⟩, (Weak.cut _ _ _ (Nat.le_of_ble_eq_true rfl) ⟨⟨rfl, rfl⟩, ⟨iv_eq (by omega), rfl⟩, ⟨rfl, rfl⟩, trivial⟩ trivial rfl)⟩ (fun mz st hI => ?_)
  obtain ⟨i, ⟨hi, ht⟩, hmz, rfl⟩ := hI
  refine vc_seq fun K4 hK4 => ?_
  refine vc_seq fun K5 hK5 => ?_
  refine vc_region ?_
  refine vl_q (q_move rfl) (dk rfl) ?_
  refine vl_q (q_move rfl) (dk rfl) ?_
  refine vl_q (q_len_sh rfl rfl rfl) (dk rfl) ?_
  refine vl_two (x := fun b => vv (.bool b)) _ (q_cmp rfl rfl rfl rfl) (dk rfl) (fun h9 => ?_) (fun h9 => ?_)
  · replace h9 := lss_of h9
    simp only [List.length_map] at h9
    refine vl_nil ?_
    refine hK5 _ ?_
    refine vc_cond_true rfl ?_
    refine vc_skip ?_
    refine hK4 _ ?_
    refine vc_seq fun K6 hK6 => ?_
    refine vc_block ?_
    refine vc_seq fun K7 hK7 => ?_
    refine vc_seq fun K8 hK8 => ?_
    have hil : i < l.length := by omega
    have hmi := mkS_at k hil
    refine vc_region_any mixed (fun n => false) true rfl rfl (fun _ hU9 => hU9) fun w1 S1 L1 Z1 H1 => ?_
    refine va_q 0 rfl (by kernel_rfl) (by kernel_rfl) (by kernel_rfl) (q_move rfl) (dk rfl) ?_
    refine va_q 1 rfl (by kernel_rfl) (by kernel_rfl) (by kernel_rfl) (q_move rfl) (dk rfl) ?_
    refine va_q 2 rfl (by kernel_rfl) (by kernel_rfl) (by kernel_rfl) (q_indexAddr_sh rfl rfl rfl rfl rfl rfl (by decide) (by omega) (get_map (i := i) hil)) (dk rfl) ?_
    refine va_q 3 rfl (by kernel_rfl) (by kernel_rfl) (by kernel_rfl) (q_load_sp rfl rfl rfl rfl rfl (by decide)) (dk rfl) ?_
    refine va_q 4 rfl (by kernel_rfl) (by kernel_rfl) (by kernel_rfl) (q_move rfl) (dk rfl) ?_
    refine va_all [5] (by kernel_rfl) (by simp) ⟨⟨_, rfl, ?_⟩, trivial⟩
    refine vl_callP (c_laws_markText (k + i) (by omega)) rfl rfl ⟨XOk.val _, trivial⟩ rfl (.inr rfl) (dk rfl) ?_
    refine vl_nil ?_
    refine va_two 6 (x := fun b => vv (.bool b)) _ rfl (by kernel_rfl) (by kernel_rfl) (by kernel_rfl) (q_cmpS rfl rfl (.inr rfl) rfl) (dk rfl) (fun h18 => ?_) (fun h18 => ?_)
    · replace h18 := neqS_of h18
      refine va_done (by kernel_rfl) ?_
      refine hK8 _ ?_
      refine vc_cond_true rfl ?_
      refine vc_seq fun K10 hK10 => ?_
      refine vc_region ?_
      refine vl_q (q_assign rfl) (dk rfl) ?_
      refine vl_nil ?_
      refine hK10 _ ?_
      refine vc_ret ?_
      refine ret_p rfl (.cons (res_tmp rfl) .nil) rfl ?_
      rw [heldv_f (decide_eq_false (ne_of_at hil hmi h18))]; rfl
    · replace h18 := neqS_nof h18
      refine va_done (by kernel_rfl) ?_
      refine hK8 _ ?_
      refine vc_cond_false rfl ?_
      refine vc_skip ?_
      refine hK7 _ ?_
      refine vc_region ?_
      refine vl_q (q_move rfl) (dk rfl) ?_
      refine vl_q (q_add rfl rfl (IntWalk.i64_in _ (by omega))) (dk rfl) ?_
      refine vl_q (q_assign rfl) (dk rfl) ?_
      refine vl_nil ?_
      refine hK6 _ ?_
      refine vc_region ?_
      refine vl_q (q_move rfl) (dk rfl) ?_
      refine vl_q (q_add rfl rfl (IntWalk.i64_in _ (by omega))) (dk rfl) ?_
      refine vl_q (q_assign rfl) (dk rfl) ?_
      refine vl_nil ?_
      refine ⟨_, _, ?_, ⟨i + 1, ⟨by omega, take_succ_at ht hil hmi h18⟩, rfl, rfl⟩, (Weak.cut _ _ _ (Nat.le_of_ble_eq_true rfl) ⟨⟨rfl, rfl⟩, ⟨iv_eq (by omega), rfl⟩, ⟨rfl, rfl⟩, trivial⟩ trivial rfl)⟩
      omega
  · replace h9 := lss_nof h9
    simp only [List.length_map] at h9
    refine vl_nil ?_
    refine hK5 _ ?_
    refine vc_cond_false rfl ?_
    refine vc_exit ?_
    refine hK2 _ ?_
    refine vc_seq fun K11 hK11 => ?_
    refine vc_region ?_
    refine vl_q (q_move rfl) (dk rfl) ?_
    refine vl_q (q_assign rfl) (dk rfl) ?_
    refine vl_nil ?_
    refine hK11 _ ?_
    refine vc_ret ?_
    refine ret_p rfl (.cons (res_tmp rfl) .nil) rfl ?_
    rw [heldv_t (decide_eq_true (take_all ht (by omega) (by rw [mkS_len]; omega)))]
    have : i = l.length := by omega
    subst this; rfl
theorem at47 : FnAt Pg 47 Go.Proofs.Try.f47 := ⟨by kernel_rfl, rfl, by decide⟩
theorem c_laws_heldHeldS (l : List Held) (k : Int) (hk : 0 ≤ k ∧ k + (sumOf wH l : Nat) ≤ 1152921504606846976) :
    Ctr Pg ty 47 [shv 6 (l.map heldC), iv k] [] (Gives (vv (.int .i64 (heldv (decide (l = markHs k l)) (k + (sumOf wH l : Nat))))) [] []) := by
  refine ctr at47 rfl (nsK_gives rfl trivial trivial) (Nat.le_of_ble_eq_true rfl) fun w0 S0 L0 Z => ?_
  refine vc_seq fun K1 hK1 => ?_
  refine vc_region ?_
  refine vl_q (q_assign rfl) (dk rfl) ?_
  refine vl_nil ?_
  refine hK1 _ ?_
  refine vc_seq fun K2 hK2 => ?_
  refine vc_seq fun K3 hK3 => ?_
  refine vc_fact (fun a w g => good_lim (x := .tmp 0) rfl g) fun hlen => ?_
  rw [List.length_map] at hlen
  refine vc_region ?_
  refine vl_q (q_assign rfl) (dk rfl) ?_
  refine vl_nil ?_
  refine hK3 _ ?_
  refine vc_block ?_
  refine vc_loop (fun mz st => ∃ i : Nat, (i ≤ l.length ∧ l.take i = (markHs k l).take i) ∧ mz = l.length - i ∧ st = mkSt [(0, .v (shv 6 (l.map heldC))), (1, .v (iv (k + (sumTo wH l i : Nat)))), (5, .v (iv i))] [] 16) ⟨_, _, ⟨0, ⟨by omega, rfl⟩, rfl, rfl⟩, (Weak.cut _ _ _ (Nat.le_of_ble_eq_true rfl) ⟨⟨rfl, rfl⟩, ⟨iv_eq (by rw [sumTo_zero]; omega), rfl⟩, ⟨rfl, rfl⟩, trivial⟩ trivial rfl)⟩ (fun mz st hI => ?_)
  obtain ⟨i, ⟨hi, ht⟩, hmz, rfl⟩ := hI
  refine vc_seq fun K4 hK4 => ?_
  refine vc_seq fun K5 hK5 => ?_
  refine vc_region ?_
  refine vl_q (q_move rfl) (dk rfl) ?_
  refine vl_q (q_move rfl) (dk rfl) ?_
  refine vl_q (q_len_sh rfl rfl rfl) (dk rfl) ?_
  refine vl_two (x := fun b => vv (.bool b)) _ (q_cmp rfl rfl rfl rfl) (dk rfl) (fun h9 => ?_) (fun h9 => ?_)
  · replace h9 := lss_of h9
    simp only [List.length_map] at h9
    refine vl_nil ?_
    refine hK5 _ ?_
    refine vc_cond_true rfl ?_
    refine vc_skip ?_
    refine hK4 _ ?_
    refine vc_seq fun K6 hK6 => ?_
    refine vc_block ?_
    refine vc_seq fun K7 hK7 => ?_
    refine vc_seq fun K8 hK8 => ?_
    have hil : i < l.length := by omega
    have hsc := sumTo_succ wH l hil
    have hsl := sumTo_le wH l (i + 1)
    have hmi := markHs_at k l hil
    have hw : wH l[i] = 4 + l[i].parts.length + l[i].hav.length := rfl
    refine vc_region ?_
    refine vl_q (q_move rfl) (dk rfl) ?_
    refine vl_q (q_move rfl) (dk rfl) ?_
    refine vl_q (q_indexAddr_sh rfl rfl rfl rfl rfl rfl (by decide) (by omega) (get_map (i := i) hil)) (dk rfl) ?_
    refine vl_q (q_fieldAddr_sp rfl rfl rfl rfl (by decide) rfl) (dk rfl) ?_
    refine vl_load_sp rfl rfl rfl rfl (by decide) (dk rfl) ?_
    refine vl_q (q_move rfl) (dk rfl) ?_
    refine vl_two (x := fun b => vv (.bool b)) _ (q_cmp rfl rfl rfl rfl) (dk rfl) (fun h18 => ?_) (fun h18 => ?_)
    · replace h18 := neq_of h18
      refine vl_nil ?_
      refine hK8 _ ?_
      refine vc_cond_true rfl ?_
      refine vc_seq fun K9 hK9 => ?_
      refine vc_region ?_
      refine vl_q (q_assign rfl) (dk rfl) ?_
      refine vl_nil ?_
      refine hK9 _ ?_
      refine vc_ret ?_
      refine ret_p rfl (.cons (res_tmp rfl) .nil) rfl ?_
      rw [heldv_f (decide_eq_false (ne_of_at hil hmi (fun e => h18 (congrArg Held.fr e))))]; rfl
    · replace h18 := neq_nof h18
      refine vl_nil ?_
      refine hK8 _ ?_
      refine vc_cond_false rfl ?_
      refine vc_skip ?_
      refine hK7 _ ?_
      refine vc_seq fun K10 hK10 => ?_
      refine vc_region ?_
      refine vl_q (q_move rfl) (dk rfl) ?_
      refine vl_q (q_add rfl rfl (IntWalk.i64_in _ (by omega))) (dk rfl) ?_
      refine vl_q (q_assign rfl) (dk rfl) ?_
      refine vl_nil ?_
      refine hK10 _ ?_
      refine vc_seq fun K11 hK11 => ?_
      refine vc_seq fun K12 hK12 => ?_
      refine vc_region ?_
      refine vl_q (q_move rfl) (dk rfl) ?_
      refine vl_q (q_move rfl) (dk rfl) ?_
      refine vl_q (q_indexAddr_sh rfl rfl rfl rfl rfl rfl (by decide) (by omega) (get_map (i := i) hil)) (dk rfl) ?_
      refine vl_q (q_fieldAddr_sp rfl rfl rfl rfl (by decide) rfl) (dk rfl) ?_
      refine vl_load_sp rfl rfl rfl rfl (by decide) (dk rfl) ?_
      refine vl_q (q_move rfl) (dk rfl) ?_
      refine vl_two (x := fun b => vv (.bool b)) _ (q_cmp rfl rfl rfl rfl) (dk rfl) (fun h27 => ?_) (fun h27 => ?_)
      · replace h27 := neq_of h27
        refine vl_nil ?_
        refine hK12 _ ?_
        refine vc_cond_true rfl ?_
        refine vc_seq fun K13 hK13 => ?_
        refine vc_region ?_
        refine vl_q (q_assign rfl) (dk rfl) ?_
        refine vl_nil ?_
        refine hK13 _ ?_
        refine vc_ret ?_
        refine ret_p rfl (.cons (res_tmp rfl) .nil) rfl ?_
        rw [heldv_f (decide_eq_false (ne_of_at hil hmi (fun e => h27 (congrArg Held.id e))))]; rfl
      · replace h27 := neq_nof h27
        refine vl_nil ?_
        refine hK12 _ ?_
        refine vc_cond_false rfl ?_
        refine vc_skip ?_
        refine hK11 _ ?_
        refine vc_seq fun K14 hK14 => ?_
        refine vc_region ?_
        refine vl_q (q_move rfl) (dk rfl) ?_
        refine vl_q (q_add rfl rfl (IntWalk.i64_in _ (by omega))) (dk rfl) ?_
        refine vl_q (q_assign rfl) (dk rfl) ?_
        refine vl_nil ?_
        refine hK14 _ ?_
        refine vc_seq fun K15 hK15 => ?_
        refine vc_seq fun K16 hK16 => ?_
        refine vc_region ?_
        refine vl_q (q_move rfl) (dk rfl) ?_
        refine vl_q (q_move rfl) (dk rfl) ?_
        refine vl_q (q_indexAddr_sh rfl rfl rfl rfl rfl rfl (by decide) (by omega) (get_map (i := i) hil)) (dk rfl) ?_
        refine vl_q (q_fieldAddr_sp rfl rfl rfl rfl (by decide) rfl) (dk rfl) ?_
        refine vl_load_sp rfl rfl rfl rfl (by decide) (dk rfl) ?_
        refine vl_q (q_move rfl) (dk rfl) ?_
        refine vl_two (x := fun b => vv (.bool b)) _ (q_cmp rfl rfl rfl rfl) (dk rfl) (fun h36 => ?_) (fun h36 => ?_)
        · replace h36 := neq_of h36
          refine vl_nil ?_
          refine hK16 _ ?_
          refine vc_cond_true rfl ?_
          refine vc_seq fun K17 hK17 => ?_
          refine vc_region ?_
          refine vl_q (q_assign rfl) (dk rfl) ?_
          refine vl_nil ?_
          refine hK17 _ ?_
          refine vc_ret ?_
          refine ret_p rfl (.cons (res_tmp rfl) .nil) rfl ?_
          rw [heldv_f (decide_eq_false (ne_of_at hil hmi (fun e => h36 (congrArg Held.cnt e))))]; rfl
        · replace h36 := neq_nof h36
          refine vl_nil ?_
          refine hK16 _ ?_
          refine vc_cond_false rfl ?_
          refine vc_skip ?_
          refine hK15 _ ?_
          refine vc_seq fun K18 hK18 => ?_
          refine vc_region ?_
          refine vl_q (q_move rfl) (dk rfl) ?_
          refine vl_q (q_add rfl rfl (IntWalk.i64_in _ (by omega))) (dk rfl) ?_
          refine vl_q (q_assign rfl) (dk rfl) ?_
          refine vl_nil ?_
          refine hK18 _ ?_
          refine vc_seq fun K19 hK19 => ?_
          refine vc_region ?_
          refine vl_q (q_move rfl) (dk rfl) ?_
          refine vl_q (q_move rfl) (dk rfl) ?_
          refine vl_q (q_indexAddr_sh rfl rfl rfl rfl rfl rfl (by decide) (by omega) (get_map (i := i) hil)) (dk rfl) ?_
          refine vl_q (q_fieldAddr_sp rfl rfl rfl rfl (by decide) rfl) (dk rfl) ?_
          refine vl_load_sp rfl rfl rfl rfl (by decide) (dk rfl) ?_
          refine vl_q (q_move rfl) (dk rfl) ?_
          refine vl_callP (c_laws_heldStringS l[i].parts ((k + (sumTo wH l i : Nat)) + 1 + 1 + 1) (by omega)) rfl rfl ⟨XOk.shc _ _, XOk.val _, trivial⟩ rfl (.inl rfl) (dk rfl) ?_
          refine vl_q (q_assign rfl) (dk rfl) ?_
          refine vl_nil ?_
          refine hK19 _ ?_
          refine vc_seq fun K20 hK20 => ?_
          refine vc_seq fun K21 hK21 => ?_
          refine vc_region ?_
          refine vl_q (q_move rfl) (dk rfl) ?_
          refine vl_two (x := fun b => vv (.bool b)) _ (q_cmp rfl rfl rfl rfl) (dk rfl) (fun h47 => ?_) (fun h47 => ?_)
          · replace h47 := lss_of h47
            have h47 := of_decide_eq_false (heldv_neg h47 (by omega))
            refine vl_nil ?_
            refine hK21 _ ?_
            refine vc_cond_true rfl ?_
            refine vc_seq fun K22 hK22 => ?_
            refine vc_region ?_
            refine vl_q (q_assign rfl) (dk rfl) ?_
            refine vl_nil ?_
            refine hK22 _ ?_
            refine vc_ret ?_
            refine ret_p rfl (.cons (res_tmp rfl) .nil) rfl ?_
            rw [heldv_f (decide_eq_false (ne_of_at hil hmi (fun e => h47 (congrArg Held.parts e))))]; rfl
          · replace h47 := lss_nof h47
            have h47 := heldv_nneg h47
            rw [heldv_t h47]
            have h47 := of_decide_eq_true h47
            refine vl_nil ?_
            refine hK21 _ ?_
            refine vc_cond_false rfl ?_
            refine vc_skip ?_
            refine hK20 _ ?_
            refine vc_seq fun K23 hK23 => ?_
            refine vc_region ?_
            refine vl_q (q_move rfl) (dk rfl) ?_
            refine vl_q (q_move rfl) (dk rfl) ?_
            refine vl_q (q_indexAddr_sh rfl rfl rfl rfl rfl rfl (by decide) (by omega) (get_map (i := i) hil)) (dk rfl) ?_
            refine vl_q (q_fieldAddr_sp rfl rfl rfl rfl (by decide) rfl) (dk rfl) ?_
            refine vl_load_sp rfl rfl rfl rfl (by decide) (dk rfl) ?_
            refine vl_q (q_move rfl) (dk rfl) ?_
            refine vl_callP (c_laws_heldBoolS l[i].hav ((k + (sumTo wH l i : Nat)) + 1 + 1 + 1 + l[i].parts.length) (by omega)) rfl rfl ⟨XOk.shc _ _, XOk.val _, trivial⟩ rfl (.inl rfl) (dk rfl) ?_
            refine vl_q (q_assign rfl) (dk rfl) ?_
            refine vl_nil ?_
            refine hK23 _ ?_
            refine vc_seq fun K24 hK24 => ?_
            refine vc_seq fun K25 hK25 => ?_
            refine vc_region ?_
            refine vl_q (q_move rfl) (dk rfl) ?_
            refine vl_two (x := fun b => vv (.bool b)) _ (q_cmp rfl rfl rfl rfl) (dk rfl) (fun h56 => ?_) (fun h56 => ?_)
            · replace h56 := lss_of h56
              have h56 := of_decide_eq_false (heldv_neg h56 (by omega))
              refine vl_nil ?_
              refine hK25 _ ?_
              refine vc_cond_true rfl ?_
              refine vc_seq fun K26 hK26 => ?_
              refine vc_region ?_
              refine vl_q (q_assign rfl) (dk rfl) ?_
              refine vl_nil ?_
              refine hK26 _ ?_
              refine vc_ret ?_
              refine ret_p rfl (.cons (res_tmp rfl) .nil) rfl ?_
              rw [heldv_f (decide_eq_false (ne_of_at hil hmi (fun e => h56 (congrArg Held.hav e))))]; rfl
            · replace h56 := lss_nof h56
              have h56 := heldv_nneg h56
              rw [heldv_t h56]
              have h56 := of_decide_eq_true h56
              refine vl_nil ?_
              refine hK25 _ ?_
              refine vc_cond_false rfl ?_
              refine vc_skip ?_
              refine hK24 _ ?_
              refine vc_seq fun K27 hK27 => ?_
              refine vc_seq fun K28 hK28 => ?_
              refine vc_region ?_
              refine vl_q (q_move rfl) (dk rfl) ?_
              refine vl_q (q_move rfl) (dk rfl) ?_
              refine vl_q (q_indexAddr_sh rfl rfl rfl rfl rfl rfl (by decide) (by omega) (get_map (i := i) hil)) (dk rfl) ?_
              refine vl_q (q_fieldAddr_sp rfl rfl rfl rfl (by decide) rfl) (dk rfl) ?_
              refine vl_load_sp rfl rfl rfl rfl (by decide) (dk rfl) ?_
              refine vl_q (q_move rfl) (dk rfl) ?_
              refine vl_two (x := fun b => vv (.bool b)) _ (q_cmp rfl rfl rfl rfl) (dk rfl) (fun h63 => ?_) (fun h63 => ?_)
              · replace h63 := neq_of h63
                refine vl_nil ?_
                refine hK28 _ ?_
                refine vc_cond_true rfl ?_
                refine vc_seq fun K29 hK29 => ?_
                refine vc_region ?_
                refine vl_q (q_assign rfl) (dk rfl) ?_
                refine vl_nil ?_
                refine hK29 _ ?_
                refine vc_ret ?_
                refine ret_p rfl (.cons (res_tmp rfl) .nil) rfl ?_
                rw [heldv_f (decide_eq_false (ne_of_at hil hmi (fun e => h63 (congrArg Held.til e))))]; rfl
              · replace h63 := neq_nof h63
                refine vl_nil ?_
                refine hK28 _ ?_
                refine vc_cond_false rfl ?_
                refine vc_skip ?_
                refine hK27 _ ?_
                refine vc_region ?_
                refine vl_q (q_move rfl) (dk rfl) ?_
                refine vl_q (q_add rfl rfl (IntWalk.i64_in _ (by omega))) (dk rfl) ?_
                refine vl_q (q_assign rfl) (dk rfl) ?_
                refine vl_nil ?_
                refine hK6 _ ?_
                refine vc_region ?_
                refine vl_q (q_move rfl) (dk rfl) ?_
                refine vl_q (q_add rfl rfl (IntWalk.i64_in _ (by omega))) (dk rfl) ?_
                refine vl_q (q_assign rfl) (dk rfl) ?_
                refine vl_nil ?_
                refine ⟨_, _, ?_, ⟨i + 1, ⟨by omega, take_succ_at ht hil hmi (held_ext h18 h27 h36 h47 h56 h63)⟩, rfl, rfl⟩, (Weak.cut _ _ _ (Nat.le_of_ble_eq_true rfl) ⟨⟨rfl, rfl⟩, ⟨iv_eq (by omega), rfl⟩, ⟨rfl, rfl⟩, trivial⟩ trivial rfl)⟩
                omega
  · replace h9 := lss_nof h9
    simp only [List.length_map] at h9
    refine vl_nil ?_
    refine hK5 _ ?_
    refine vc_cond_false rfl ?_
    refine vc_exit ?_
    refine hK2 _ ?_
    refine vc_seq fun K30 hK30 => ?_
    refine vc_region ?_
    refine vl_q (q_move rfl) (dk rfl) ?_
    refine vl_q (q_assign rfl) (dk rfl) ?_
    refine vl_nil ?_
    refine hK30 _ ?_
    refine vc_ret ?_
    refine ret_p rfl (.cons (res_tmp rfl) .nil) rfl ?_
    have hil : i = l.length := by omega
    have hf := sumTo_full wH l (i := i) (by omega)
    rw [heldv_t (decide_eq_true (take_all ht (by omega) (by rw [markHs_len]; omega))), ← hf]; rfl
theorem at22 : FnAt Pg 22 Go.Proofs.Try.f22 := ⟨by kernel_rfl, rfl, by decide⟩
theorem c_laws_heldShelf (l : List Held) (k : Int) (hk : 0 ≤ k ∧ k + (sumOf wH l : Nat) ≤ 1152921504606846976) :
    Ctr Pg ty 22 [.agg ((shelfC l).map X.c), iv k] [] (Gives (vv (.int .i64 (heldv (decide (l = markHs k l)) (k + (sumOf wH l : Nat))))) [] []) := by
  refine ctr at22 rfl (nsK_gives rfl trivial trivial) (Nat.le_of_ble_eq_true rfl) fun w0 S0 L0 Z => ?_
  refine vc_seq fun K1 hK1 => ?_
  refine vc_region ?_
  refine vl_box rfl (dk rfl) ?_
  refine vl_q (q_assign rfl) (dk rfl) ?_
  refine vl_nil ?_
  refine hK1 _ ?_
  refine vc_seq fun K2 hK2 => ?_
  refine vc_region ?_
  refine vl_q (q_fieldAddr 0 rfl rfl rfl rfl (by decide) rfl rfl) (dk rfl) ?_
  refine vl_load rfl rfl rfl rfl rfl rfl rfl (by decide) (dk rfl) ?_
  refine vl_q (q_move rfl) (dk rfl) ?_
  refine vl_callP (c_laws_heldHeldS l k hk) rfl rfl ⟨XOk.shc _ _, XOk.val _, trivial⟩ rfl (.inl rfl) (dk rfl) ?_
  refine vl_q (q_assign rfl) (dk rfl) ?_
  refine vl_nil ?_
  refine hK2 _ ?_
  refine vc_seq fun K3 hK3 => ?_
  refine vc_seq fun K4 hK4 => ?_
  refine vc_region ?_
  refine vl_q (q_move rfl) (dk rfl) ?_
  refine vl_two (x := fun b => vv (.bool b)) _ (q_cmp rfl rfl rfl rfl) (dk rfl) (fun h10 => ?_) (fun h10 => ?_)
  · replace h10 := lss_of h10
    have h10 := heldv_neg h10 (by omega)
    refine vl_nil ?_
    refine hK4 _ ?_
    refine vc_cond_true rfl ?_
    refine vc_seq fun K5 hK5 => ?_
    refine vc_region ?_
    refine vl_q (q_assign rfl) (dk rfl) ?_
    refine vl_nil ?_
    refine hK5 _ ?_
    refine vc_ret ?_
    refine ret_p rfl (.cons (res_tmp rfl) .nil) rfl ?_
    rw [heldv_f h10]; rfl
  · replace h10 := lss_nof h10
    have h10 := heldv_nneg h10
    refine vl_nil ?_
    refine hK4 _ ?_
    refine vc_cond_false rfl ?_
    refine vc_skip ?_
    refine hK3 _ ?_
    refine vc_seq fun K6 hK6 => ?_
    refine vc_region ?_
    refine vl_q (q_move rfl) (dk rfl) ?_
    refine vl_q (q_assign rfl) (dk rfl) ?_
    refine vl_nil ?_
    refine hK6 _ ?_
    refine vc_ret ?_
    refine ret_p rfl (.cons (res_tmp rfl) .nil) rfl ?_
    rfl
end Go.Vm.S
namespace Go.Vm.S
open Go Go.Vm
theorem c_eqShelf_self (l : List Held) : Ctr Pg ty 20 [.agg ((shelfC l).map X.c), .agg ((shelfC l).map X.c)] [] (Gives (vv (.bool true)) [] []) := by
  have h := c_laws_eqShelf l l
  rwa [decide_eq_true rfl] at h
theorem c_heldShelf_marked (l : List Held) (k : Int) (hk : 0 ≤ k ∧ k + (sumOf wH l : Nat) ≤ 1152921504606846976) :
    Ctr Pg ty 22 [.agg ((shelfC (markHs k l)).map X.c), iv k] [] (Gives (vv (.int .i64 (k + (sumOf wH l : Nat)))) [] []) := by
  have h := c_laws_heldShelf (markHs k l) k (by rw [markHs_w]; exact hk)
  rwa [markHs_idem, heldv_t (decide_eq_true rfl), markHs_w] at h
end Go.Vm.S
namespace Go.Vm.S
open Go Go.Vm
set_option maxRecDepth 100000
set_option linter.unusedVariables false
set_option maxHeartbeats 4000000
theorem at73 : FnAt Pg 73 Go.Proofs.Try.f73 := ⟨by kernel_rfl, rfl, by decide⟩
theorem c_laws_szBoolS (l : List Bool) (n : Int) (hn : 0 ≤ n ∧ n ≤ 4611686018427387904) :
    Ctr Pg ty 73 [shv 1 (l.map boolC), iv n] [] (Gives (vv (.int .i64 (szv l.length n))) [] []) := by
  refine ctr at73 rfl (nsK_gives rfl trivial trivial) (Nat.le_of_ble_eq_true rfl) fun w0 S0 L0 Z => ?_
  refine vc_seq fun K1 hK1 => ?_
  refine vc_region ?_
  refine vl_q (q_assign rfl) (dk rfl) ?_
  refine vl_nil ?_
  refine hK1 _ ?_
  refine vc_seq fun K2 hK2 => ?_
  refine vc_fact (fun a w g => good_lim (x := .tmp 0) rfl g) fun hlen => ?_
  refine vc_region ?_
  refine vl_q (q_move rfl) (dk rfl) ?_
  refine vl_q (q_move rfl) (dk rfl) ?_
  refine vl_q (q_len_sh rfl rfl rfl) (dk rfl) ?_
  refine vl_q (q_sub rfl rfl (IntWalk.i64_in _ (by omega))) (dk rfl) ?_
  refine vl_q (q_assign rfl) (dk rfl) ?_
  refine vl_nil ?_
  refine hK2 _ ?_
  refine vc_seq fun K3 hK3 => ?_
  refine vc_seq fun K4 hK4 => ?_
  rw [List.length_map] at hlen
  simp only [List.length_map]
  refine vc_region ?_
  refine vl_q (q_move rfl) (dk rfl) ?_
  refine vl_two (x := fun b => vv (.bool b)) _ (q_cmp rfl rfl rfl rfl) (dk rfl) (fun h10 => ?_) (fun h10 => ?_)
  · replace h10 := lss_of h10
    refine vl_nil ?_
    refine hK4 _ ?_
    refine vc_cond_true rfl ?_
    refine vc_seq fun K5 hK5 => ?_
    refine vc_region ?_
    refine vl_q (q_assign rfl) (dk rfl) ?_
    refine vl_nil ?_
    refine hK5 _ ?_
    refine vc_ret ?_
    refine ret_p rfl (.cons (res_tmp rfl) .nil) rfl ?_
    rw [szv_lt (by omega)]; rfl
  · replace h10 := lss_nof h10
    refine vl_nil ?_
    refine hK4 _ ?_
    refine vc_cond_false rfl ?_
    refine vc_skip ?_
    refine hK3 _ ?_
    refine vc_seq fun K6 hK6 => ?_
    refine vc_region ?_
    refine vl_q (q_move rfl) (dk rfl) ?_
    refine vl_q (q_assign rfl) (dk rfl) ?_
    refine vl_nil ?_
    refine hK6 _ ?_
    refine vc_ret ?_
    refine ret_p rfl (.cons (res_tmp rfl) .nil) rfl ?_
    rw [szv_ge (by omega)]; rfl
theorem at72 : FnAt Pg 72 Go.Proofs.Try.f72 := ⟨by kernel_rfl, rfl, by decide⟩
theorem c_laws_szStringS (l : List ByteArray) (n : Int) (hn : 0 ≤ n ∧ n ≤ 4611686018427387904) (hok : strsOk l) :
    Ctr Pg ty 72 [shv 1 (l.map strC), iv n] [] (Gives (vv (.int .i64 (szv (l.length + sumOf ByteArray.size l) n))) [] []) := by
  refine ctr at72 rfl (nsK_gives rfl trivial trivial) (Nat.le_of_ble_eq_true rfl) fun w0 S0 L0 Z => ?_
  refine vc_seq fun K1 hK1 => ?_
  refine vc_region ?_
  refine vl_q (q_assign rfl) (dk rfl) ?_
  refine vl_nil ?_
  refine hK1 _ ?_
  refine vc_seq fun K2 hK2 => ?_
  refine vc_fact (fun a w g => good_lim (x := .tmp 0) rfl g) fun hlen => ?_
  refine vc_region ?_
  refine vl_q (q_move rfl) (dk rfl) ?_
  refine vl_q (q_move rfl) (dk rfl) ?_
  refine vl_q (q_len_sh rfl rfl rfl) (dk rfl) ?_
  refine vl_q (q_sub rfl rfl (IntWalk.i64_in _ (by omega))) (dk rfl) ?_
  refine vl_q (q_assign rfl) (dk rfl) ?_
  refine vl_nil ?_
  refine hK2 _ ?_
  refine vc_seq fun K3 hK3 => ?_
  refine vc_seq fun K4 hK4 => ?_
  rw [List.length_map] at hlen
  simp only [List.length_map]
  refine vc_region ?_
  refine vl_q (q_move rfl) (dk rfl) ?_
  refine vl_two (x := fun b => vv (.bool b)) _ (q_cmp rfl rfl rfl rfl) (dk rfl) (fun h11 => ?_) (fun h11 => ?_)
  · replace h11 := lss_of h11
    refine vl_nil ?_
    refine hK4 _ ?_
    refine vc_cond_true rfl ?_
    refine vc_seq fun K5 hK5 => ?_
    refine vc_region ?_
    refine vl_q (q_assign rfl) (dk rfl) ?_
    refine vl_nil ?_
    refine hK5 _ ?_
    refine vc_ret ?_
    refine ret_p rfl (.cons (res_tmp rfl) .nil) rfl ?_
    rw [szv_lt (by omega)]; rfl
  · replace h11 := lss_nof h11
    refine vl_nil ?_
    refine hK4 _ ?_
    refine vc_cond_false rfl ?_
    refine vc_skip ?_
    refine hK3 _ ?_
    refine vc_seq fun K6 hK6 => ?_
    refine vc_seq fun K7 hK7 => ?_
    refine vc_region ?_
    refine vl_q (q_assign rfl) (dk rfl) ?_
    refine vl_nil ?_
    refine hK7 _ ?_
    refine vc_block ?_
    refine vc_loop (fun mz st => ∃ i : Nat, ∃ m : Int, (i ≤ l.length ∧ m = n - (l.length + sumTo ByteArray.size l i : Nat) ∧ 0 ≤ m) ∧ mz = l.length - i ∧ st = mkSt [(0, .v (shv 1 (l.map strC))), (1, .v (iv m)), (5, .v (iv i))] [] 16) ⟨_, _, ⟨0, _, ⟨by omega, by simp [sumTo_zero], by omega⟩, rfl, rfl⟩, (Weak.cut _ _ _ (Nat.le_of_ble_eq_true rfl) ⟨⟨rfl, rfl⟩, ⟨rfl, rfl⟩, ⟨rfl, rfl⟩, trivial⟩ trivial rfl)⟩ (fun mz st hI => ?_)
    obtain ⟨i, m, ⟨hi, hm, hm0⟩, hmz, rfl⟩ := hI
    refine vc_seq fun K8 hK8 => ?_
    refine vc_seq fun K9 hK9 => ?_
    refine vc_region ?_
    refine vl_q (q_move rfl) (dk rfl) ?_
    refine vl_q (q_move rfl) (dk rfl) ?_
    refine vl_q (q_len_sh rfl rfl rfl) (dk rfl) ?_
    refine vl_two (x := fun b => vv (.bool b)) _ (q_cmp rfl rfl rfl rfl) (dk rfl) (fun h15 => ?_) (fun h15 => ?_)
    · replace h15 := lss_of h15
      simp only [List.length_map] at h15
      refine vl_nil ?_
      refine hK9 _ ?_
      refine vc_cond_true rfl ?_
      refine vc_skip ?_
      refine hK8 _ ?_
      refine vc_seq fun K10 hK10 => ?_
      refine vc_block ?_
      refine vc_seq fun K11 hK11 => ?_
      have hil : i < l.length := by omega
      refine vc_region ?_
      refine vl_q (q_move rfl) (dk rfl) ?_
      refine vl_q (q_move rfl) (dk rfl) ?_
      refine vl_q (q_move rfl) (dk rfl) ?_
      refine vl_q (q_indexAddr_sh rfl rfl rfl rfl rfl rfl (by decide) (by omega) (get_map (i := i) (by omega))) (dk rfl) ?_
      refine vl_load_sp rfl rfl rfl rfl (by decide) (dk rfl) ?_
      refine vl_q (q_len_str rfl rfl rfl) (dk rfl) ?_
      have hsz := hok _ (List.getElem_mem hil)
      refine vl_q (q_sub rfl rfl (IntWalk.i64_in _ (by omega))) (dk rfl) ?_
      refine vl_q (q_assign rfl) (dk rfl) ?_
      refine vl_nil ?_
      refine hK11 _ ?_
      refine vc_seq fun K12 hK12 => ?_
      refine vc_region ?_
      refine vl_q (q_move rfl) (dk rfl) ?_
      refine vl_two (x := fun b => vv (.bool b)) _ (q_cmp rfl rfl rfl rfl) (dk rfl) (fun h26 => ?_) (fun h26 => ?_)
      · replace h26 := lss_of h26
        have := sumTo_le ByteArray.size l (i + 1)
        rw [sumTo_succ _ _ hil] at this
        refine vl_nil ?_
        refine hK12 _ ?_
        refine vc_cond_true rfl ?_
        refine vc_seq fun K13 hK13 => ?_
        refine vc_region ?_
        refine vl_q (q_assign rfl) (dk rfl) ?_
        refine vl_nil ?_
        refine hK13 _ ?_
        refine vc_ret ?_
        refine ret_p rfl (.cons (res_tmp rfl) .nil) rfl ?_
        rw [szv_lt (by omega)]; rfl
      · replace h26 := lss_nof h26
        refine vl_nil ?_
        refine hK12 _ ?_
        refine vc_cond_false rfl ?_
        refine vc_skip ?_
        refine hK10 _ ?_
        refine vc_region ?_
        refine vl_q (q_move rfl) (dk rfl) ?_
        refine vl_q (q_add rfl rfl (IntWalk.i64_in _ (by omega))) (dk rfl) ?_
        refine vl_q (q_assign rfl) (dk rfl) ?_
        refine vl_nil ?_
        refine ⟨_, _, ?_, ⟨i + 1, _, ⟨by omega, by rw [sumTo_succ _ _ (by omega)]; omega, by omega⟩, rfl, rfl⟩, (Weak.cut _ _ _ (Nat.le_of_ble_eq_true rfl) ⟨⟨rfl, rfl⟩, ⟨rfl, rfl⟩, ⟨rfl, rfl⟩, trivial⟩ trivial rfl)⟩
        omega
    · replace h15 := lss_nof h15
      simp only [List.length_map] at h15
      refine vl_nil ?_
      refine hK9 _ ?_
      refine vc_cond_false rfl ?_
      refine vc_exit ?_
      refine hK6 _ ?_
      refine vc_seq fun K14 hK14 => ?_
      have := sumTo_full ByteArray.size l (i := i) (by omega)
      refine vc_region ?_
      refine vl_q (q_move rfl) (dk rfl) ?_
      refine vl_q (q_assign rfl) (dk rfl) ?_
      refine vl_nil ?_
      refine hK14 _ ?_
      refine vc_ret ?_
      refine ret_p rfl (.cons (res_tmp rfl) .nil) rfl ?_
      rw [szv_ge (by omega)]
      rw [← this, hm]; rfl
theorem at62 : FnAt Pg 62 Go.Proofs.Try.f62 := ⟨by kernel_rfl, rfl, by decide⟩
theorem c_laws_szHeld (h : Held) (n : Int) (hn : 0 ≤ n ∧ n ≤ 4611686018427387904) (hok : heldOk h) :
    Ctr Pg ty 62 [.agg ((heldC h).map X.c), iv n] [] (Gives (vv (.int .i64 (szv (szHeld h) n))) [] []) := by
  refine ctr at62 rfl (nsK_gives rfl trivial trivial) (Nat.le_of_ble_eq_true rfl) fun w0 S0 L0 Z => ?_
  refine vc_seq fun K1 hK1 => ?_
  refine vc_region ?_
  refine vl_box rfl (dk rfl) ?_
  refine vl_q (q_assign rfl) (dk rfl) ?_
  refine vl_nil ?_
  refine hK1 _ ?_
  refine vc_seq fun K2 hK2 => ?_
  refine vc_region ?_
  refine vl_q (q_fieldAddr 3 rfl rfl rfl rfl (by decide) rfl rfl) (dk rfl) ?_
  refine vl_load rfl rfl rfl rfl rfl rfl rfl (by decide) (dk rfl) ?_
  refine vl_q (q_move rfl) (dk rfl) ?_
  refine vl_callP (c_laws_szStringS h.parts n (by omega) hok) rfl rfl ⟨XOk.shc _ _, XOk.val _, trivial⟩ rfl (.inl rfl) (dk rfl) ?_
  refine vl_q (q_assign rfl) (dk rfl) ?_
  refine vl_nil ?_
  refine hK2 _ ?_
  refine vc_seq fun K3 hK3 => ?_
  refine vc_seq fun K4 hK4 => ?_
  refine vc_region ?_
  refine vl_q (q_move rfl) (dk rfl) ?_
  refine vl_two (x := fun b => vv (.bool b)) _ (q_cmp rfl rfl rfl rfl) (dk rfl) (fun h10 => ?_) (fun h10 => ?_)
  · replace h10 := lss_of h10
    have h10 := szv_neg h10 (by omega)
    refine vl_nil ?_
    refine hK4 _ ?_
    refine vc_cond_true rfl ?_
    refine vc_seq fun K5 hK5 => ?_
    refine vc_region ?_
    refine vl_q (q_assign rfl) (dk rfl) ?_
    refine vl_nil ?_
    refine hK5 _ ?_
    refine vc_ret ?_
    refine ret_p rfl (.cons (res_tmp rfl) .nil) rfl ?_
    rw [szv_lt (by unfold szHeld szStrs; omega)]; rfl
  · replace h10 := lss_nof h10
    have h10 := szv_nneg h10
    rw [szv_ge h10]
    refine vl_nil ?_
    refine hK4 _ ?_
    refine vc_cond_false rfl ?_
    refine vc_skip ?_
    refine hK3 _ ?_
    refine vc_seq fun K6 hK6 => ?_
    refine vc_region ?_
    refine vl_q (q_fieldAddr 4 rfl rfl rfl rfl (by decide) rfl rfl) (dk rfl) ?_
    refine vl_load rfl rfl rfl rfl rfl rfl rfl (by decide) (dk rfl) ?_
    refine vl_q (q_move rfl) (dk rfl) ?_
    refine vl_callP (c_laws_szBoolS h.hav _ (by omega)) rfl rfl ⟨XOk.shc _ _, XOk.val _, trivial⟩ rfl (.inl rfl) (dk rfl) ?_
    refine vl_q (q_assign rfl) (dk rfl) ?_
    refine vl_nil ?_
    refine hK6 _ ?_
    refine vc_seq fun K7 hK7 => ?_
    refine vc_seq fun K8 hK8 => ?_
    refine vc_region ?_
    refine vl_q (q_move rfl) (dk rfl) ?_
    refine vl_two (x := fun b => vv (.bool b)) _ (q_cmp rfl rfl rfl rfl) (dk rfl) (fun h16 => ?_) (fun h16 => ?_)
    · replace h16 := lss_of h16
      have h16 := szv_neg h16 (by omega)
      refine vl_nil ?_
      refine hK8 _ ?_
      refine vc_cond_true rfl ?_
      refine vc_seq fun K9 hK9 => ?_
      refine vc_region ?_
      refine vl_q (q_assign rfl) (dk rfl) ?_
      refine vl_nil ?_
      refine hK9 _ ?_
      refine vc_ret ?_
      refine ret_p rfl (.cons (res_tmp rfl) .nil) rfl ?_
      rw [szv_lt (by unfold szHeld szStrs; omega)]; rfl
    · replace h16 := lss_nof h16
      have h16 := szv_nneg h16
      rw [szv_ge h16]
      refine vl_nil ?_
      refine hK8 _ ?_
      refine vc_cond_false rfl ?_
      refine vc_skip ?_
      refine hK7 _ ?_
      refine vc_seq fun K10 hK10 => ?_
      refine vc_region ?_
      refine vl_q (q_move rfl) (dk rfl) ?_
      refine vl_q (q_assign rfl) (dk rfl) ?_
      refine vl_nil ?_
      refine hK10 _ ?_
      refine vc_ret ?_
      refine ret_p rfl (.cons (res_tmp rfl) .nil) rfl ?_
      rw [szv_ge (by unfold szHeld szStrs; omega)]
      unfold szHeld szStrs; simp only [tOf]; congr 5; omega
theorem at40 : FnAt Pg 40 Go.Proofs.Try.f40 := ⟨by kernel_rfl, rfl, by decide⟩
theorem c_laws_szHeldS (l : List Held) (n : Int) (hn : 0 ≤ n ∧ n ≤ 4611686018427387904) (hok : heldsOk l) :
    Ctr Pg ty 40 [shv 6 (l.map heldC), iv n] [] (Gives (vv (.int .i64 (szv (l.length + sumOf szHeld l) n))) [] []) := by
  refine ctr at40 rfl (nsK_gives rfl trivial trivial) (Nat.le_of_ble_eq_true rfl) fun w0 S0 L0 Z => ?_
  refine vc_seq fun K1 hK1 => ?_
  refine vc_region ?_
  refine vl_q (q_assign rfl) (dk rfl) ?_
  refine vl_nil ?_
  refine hK1 _ ?_
  refine vc_seq fun K2 hK2 => ?_
  refine vc_fact (fun a w g => good_lim (x := .tmp 0) rfl g) fun hlen => ?_
  refine vc_region ?_
  refine vl_q (q_move rfl) (dk rfl) ?_
  refine vl_q (q_move rfl) (dk rfl) ?_
  refine vl_q (q_len_sh rfl rfl rfl) (dk rfl) ?_
  refine vl_q (q_sub rfl rfl (IntWalk.i64_in _ (by omega))) (dk rfl) ?_
  refine vl_q (q_assign rfl) (dk rfl) ?_
  refine vl_nil ?_
  refine hK2 _ ?_
  refine vc_seq fun K3 hK3 => ?_
  refine vc_seq fun K4 hK4 => ?_
  rw [List.length_map] at hlen
  simp only [List.length_map]
  refine vc_region ?_
  refine vl_q (q_move rfl) (dk rfl) ?_
  refine vl_two (x := fun b => vv (.bool b)) _ (q_cmp rfl rfl rfl rfl) (dk rfl) (fun h11 => ?_) (fun h11 => ?_)
  · replace h11 := lss_of h11
    refine vl_nil ?_
    refine hK4 _ ?_
    refine vc_cond_true rfl ?_
    refine vc_seq fun K5 hK5 => ?_
    refine vc_region ?_
    refine vl_q (q_assign rfl) (dk rfl) ?_
    refine vl_nil ?_
    refine hK5 _ ?_
    refine vc_ret ?_
    refine ret_p rfl (.cons (res_tmp rfl) .nil) rfl ?_
    rw [szv_lt (by omega)]; rfl
  · replace h11 := lss_nof h11
    refine vl_nil ?_
    refine hK4 _ ?_
    refine vc_cond_false rfl ?_
    refine vc_skip ?_
    refine hK3 _ ?_
    refine vc_seq fun K6 hK6 => ?_
    refine vc_seq fun K7 hK7 => ?_
    refine vc_region ?_
    refine vl_q (q_assign rfl) (dk rfl) ?_
    refine vl_nil ?_
    refine hK7 _ ?_
    refine vc_block ?_
    refine vc_loop (fun mz st => ∃ i : Nat, ∃ m : Int, (i ≤ l.length ∧ m = n - (l.length + sumTo szHeld l i : Nat) ∧ 0 ≤ m) ∧ mz = l.length - i ∧ st = mkSt [(0, .v (shv 6 (l.map heldC))), (1, .v (iv m)), (5, .v (iv i))] [] 16) ⟨_, _, ⟨0, _, ⟨by omega, by simp [sumTo_zero], by omega⟩, rfl, rfl⟩, (Weak.cut _ _ _ (Nat.le_of_ble_eq_true rfl) ⟨⟨rfl, rfl⟩, ⟨rfl, rfl⟩, ⟨rfl, rfl⟩, trivial⟩ trivial rfl)⟩ (fun mz st hI => ?_)
    obtain ⟨i, m, ⟨hi, hm, hm0⟩, hmz, rfl⟩ := hI
    refine vc_seq fun K8 hK8 => ?_
    refine vc_seq fun K9 hK9 => ?_
    refine vc_region ?_
    refine vl_q (q_move rfl) (dk rfl) ?_
    refine vl_q (q_move rfl) (dk rfl) ?_
    refine vl_q (q_len_sh rfl rfl rfl) (dk rfl) ?_
    refine vl_two (x := fun b => vv (.bool b)) _ (q_cmp rfl rfl rfl rfl) (dk rfl) (fun h15 => ?_) (fun h15 => ?_)
    · replace h15 := lss_of h15
      simp only [List.length_map] at h15
      refine vl_nil ?_
      refine hK9 _ ?_
      refine vc_cond_true rfl ?_
      refine vc_skip ?_
      refine hK8 _ ?_
      refine vc_seq fun K10 hK10 => ?_
      refine vc_block ?_
      refine vc_seq fun K11 hK11 => ?_
      have hil : i < l.length := by omega
      have hsc := sumTo_succ szHeld l hil
      have hsl := sumTo_le szHeld l (i + 1)
      refine vc_region ?_
      refine vl_q (q_move rfl) (dk rfl) ?_
      refine vl_q (q_move rfl) (dk rfl) ?_
      refine vl_q (q_indexAddr_sh rfl rfl rfl rfl rfl rfl (by decide) (by omega) (get_map (i := i) (by omega))) (dk rfl) ?_
      refine vl_load_sp rfl rfl rfl rfl (by decide) (dk rfl) ?_
      refine vl_q (q_move rfl) (dk rfl) ?_
      refine vl_callP (c_laws_szHeld l[i] m (by omega) (hok _ (List.getElem_mem hil))) rfl rfl ⟨VOk.agg ⟨XOk.val _, XOk.val _, XOk.val _, XOk.shc _ _, XOk.shc _ _, XOk.val _, trivial⟩, XOk.val _, trivial⟩ rfl (.inl rfl) (dk rfl) ?_
      refine vl_q (q_assign rfl) (dk rfl) ?_
      refine vl_nil ?_
      refine hK11 _ ?_
      refine vc_seq fun K12 hK12 => ?_
      refine vc_region ?_
      refine vl_q (q_move rfl) (dk rfl) ?_
      refine vl_two (x := fun b => vv (.bool b)) _ (q_cmp rfl rfl rfl rfl) (dk rfl) (fun h25 => ?_) (fun h25 => ?_)
      · replace h25 := lss_of h25
        have h25 := szv_neg h25 (by omega)
        refine vl_nil ?_
        refine hK12 _ ?_
        refine vc_cond_true rfl ?_
        refine vc_seq fun K13 hK13 => ?_
        refine vc_region ?_
        refine vl_q (q_assign rfl) (dk rfl) ?_
        refine vl_nil ?_
        refine hK13 _ ?_
        refine vc_ret ?_
        refine ret_p rfl (.cons (res_tmp rfl) .nil) rfl ?_
        rw [szv_lt (by omega)]; rfl
      · replace h25 := lss_nof h25
        have h25 := szv_nneg h25
        rw [szv_ge h25]
        refine vl_nil ?_
        refine hK12 _ ?_
        refine vc_cond_false rfl ?_
        refine vc_skip ?_
        refine hK10 _ ?_
        refine vc_region ?_
        refine vl_q (q_move rfl) (dk rfl) ?_
        refine vl_q (q_add rfl rfl (IntWalk.i64_in _ (by omega))) (dk rfl) ?_
        refine vl_q (q_assign rfl) (dk rfl) ?_
        refine vl_nil ?_
        refine ⟨_, _, ?_, ⟨i + 1, _, ⟨by omega, by omega, by omega⟩, rfl, rfl⟩, (Weak.cut _ _ _ (Nat.le_of_ble_eq_true rfl) ⟨⟨rfl, rfl⟩, ⟨rfl, rfl⟩, ⟨rfl, rfl⟩, trivial⟩ trivial rfl)⟩
        omega
    · replace h15 := lss_nof h15
      simp only [List.length_map] at h15
      refine vl_nil ?_
      refine hK9 _ ?_
      refine vc_cond_false rfl ?_
      refine vc_exit ?_
      refine hK6 _ ?_
      refine vc_seq fun K14 hK14 => ?_
      have := sumTo_full szHeld l (i := i) (by omega)
      refine vc_region ?_
      refine vl_q (q_move rfl) (dk rfl) ?_
      refine vl_q (q_assign rfl) (dk rfl) ?_
      refine vl_nil ?_
      refine hK14 _ ?_
      refine vc_ret ?_
      refine ret_p rfl (.cons (res_tmp rfl) .nil) rfl ?_
      rw [szv_ge (by omega)]
      rw [← this, hm]; rfl
theorem at16 : FnAt Pg 16 Go.Proofs.Try.f16 := ⟨by kernel_rfl, rfl, by decide⟩
theorem c_laws_szShelf (l : List Held) (n : Int) (hn : 0 ≤ n ∧ n ≤ 4611686018427387904) (hok : heldsOk l) :
    Ctr Pg ty 16 [.agg ((shelfC l).map X.c), iv n] [] (Gives (vv (.int .i64 (szv (szHelds l) n))) [] []) := by
  refine ctr at16 rfl (nsK_gives rfl trivial trivial) (Nat.le_of_ble_eq_true rfl) fun w0 S0 L0 Z => ?_
  refine vc_seq fun K1 hK1 => ?_
  refine vc_region ?_
  refine vl_box rfl (dk rfl) ?_
  refine vl_q (q_assign rfl) (dk rfl) ?_
  refine vl_nil ?_
  refine hK1 _ ?_
  refine vc_seq fun K2 hK2 => ?_
  refine vc_region ?_
  refine vl_q (q_fieldAddr 0 rfl rfl rfl rfl (by decide) rfl rfl) (dk rfl) ?_
  refine vl_load rfl rfl rfl rfl rfl rfl rfl (by decide) (dk rfl) ?_
  refine vl_q (q_move rfl) (dk rfl) ?_
  refine vl_callP (c_laws_szHeldS l n (by omega) hok) rfl rfl ⟨XOk.shc _ _, XOk.val _, trivial⟩ rfl (.inl rfl) (dk rfl) ?_
  refine vl_q (q_assign rfl) (dk rfl) ?_
  refine vl_nil ?_
  refine hK2 _ ?_
  refine vc_seq fun K3 hK3 => ?_
  refine vc_seq fun K4 hK4 => ?_
  refine vc_region ?_
  refine vl_q (q_move rfl) (dk rfl) ?_
  refine vl_two (x := fun b => vv (.bool b)) _ (q_cmp rfl rfl rfl rfl) (dk rfl) (fun h10 => ?_) (fun h10 => ?_)
  · replace h10 := lss_of h10
    have h10 := szv_neg h10 (by omega)
    refine vl_nil ?_
    refine hK4 _ ?_
    refine vc_cond_true rfl ?_
    refine vc_seq fun K5 hK5 => ?_
    refine vc_region ?_
    refine vl_q (q_assign rfl) (dk rfl) ?_
    refine vl_nil ?_
    refine hK5 _ ?_
    refine vc_ret ?_
    refine ret_p rfl (.cons (res_tmp rfl) .nil) rfl ?_
    rw [szv_lt (by unfold szHelds; omega)]; rfl
  · replace h10 := lss_nof h10
    have h10 := szv_nneg h10
    rw [szv_ge h10]
    refine vl_nil ?_
    refine hK4 _ ?_
    refine vc_cond_false rfl ?_
    refine vc_skip ?_
    refine hK3 _ ?_
    refine vc_seq fun K6 hK6 => ?_
    refine vc_region ?_
    refine vl_q (q_move rfl) (dk rfl) ?_
    refine vl_q (q_assign rfl) (dk rfl) ?_
    refine vl_nil ?_
    refine hK6 _ ?_
    refine vc_ret ?_
    refine ret_p rfl (.cons (res_tmp rfl) .nil) rfl ?_
    rw [szv_ge (by unfold szHelds; omega)]; rfl
end Go.Vm.S
namespace Go.Vm.S
open Go Go.Vm
set_option maxRecDepth 100000
set_option linter.unusedVariables false
set_option maxHeartbeats 4000000
theorem at75 : FnAt Pg 75 Go.Proofs.Try.f75 := ⟨by kernel_rfl, rfl, by decide⟩
theorem c_laws_toBoolS (l : List Bool) (hl : l.length ≤ 4194304) :
    Ctr Pg ty 75 [shv 1 (l.map boolC)] [] (Gives (.v (.one (.hdr 16 0 l.length))) [⟨1, clo (l.map boolC)⟩] []) := by
  refine ctr at75 rfl (nsK_gives rfl ⟨nsN_map boolC_noSh, trivial⟩ trivial) (Nat.le_of_ble_eq_true rfl) fun w0 S0 L0 Z => ?_
  refine vc_seq fun K1 hK1 => ?_
  refine vc_region ?_
  refine vl_q (q_assign rfl) (dk rfl) ?_
  refine vl_nil ?_
  refine hK1 _ ?_
  refine vc_seq fun K2 hK2 => ?_
  refine vc_region ?_
  refine vl_q (q_move rfl) (dk rfl) ?_
  refine vl_q (q_len_sh rfl rfl rfl) (dk rfl) ?_
  simp only [List.length_map]
  refine vl_makeSlice rfl rfl rfl rfl rfl (by omega) (by omega) (by show ((1 : Nat) : Int) * _ ≤ _; omega) (by decide) (dk rfl) ?_
  refine vl_q (q_assign rfl) (dk rfl) ?_
  refine vl_nil ?_
  refine hK2 _ ?_
  refine vc_seq fun K3 hK3 => ?_
  refine vc_seq fun K4 hK4 => ?_
  refine vc_region ?_
  refine vl_q (q_assign rfl) (dk rfl) ?_
  refine vl_nil ?_
  refine hK4 _ ?_
  refine vc_block ?_
  refine vc_loop (fun mz st => ∃ i : Nat, (i ≤ l.length) ∧ mz = l.length - i ∧ st = mkSt [(0, .v (shv 1 (l.map boolC))), (3, .v (.one (.hdr 16 0 l.length))), (4, .v (iv i))] [(16, ⟨1, clo (upto boolC (boolC false) l i)⟩)] 17) ⟨_, _, ⟨0, by omega, rfl, rfl⟩, (Weak.cut _ _ _ (Nat.le_of_ble_eq_true rfl) ⟨⟨rfl, rfl⟩, ⟨rfl, rfl⟩, ⟨rfl, rfl⟩, trivial⟩ ⟨⟨Nat.le_of_ble_eq_true rfl, some_node (upto_zero boolC (boolC false) l), belN_clo _ _ _⟩, trivial⟩ rfl)⟩ (fun mz st hI => ?_)
  obtain ⟨i, hi, hmz, rfl⟩ := hI
  refine vc_seq fun K5 hK5 => ?_
  refine vc_seq fun K6 hK6 => ?_
  refine vc_region ?_
  refine vl_q (q_move rfl) (dk rfl) ?_
  refine vl_q (q_move rfl) (dk rfl) ?_
  refine vl_q (q_len_sh rfl rfl rfl) (dk rfl) ?_
  refine vl_two (x := fun b => vv (.bool b)) _ (q_cmp rfl rfl rfl rfl) (dk rfl) (fun h11 => ?_) (fun h11 => ?_)
  · replace h11 := lss_of h11
    simp only [List.length_map] at h11
    refine vl_nil ?_
    refine hK6 _ ?_
    refine vc_cond_true rfl ?_
    refine vc_skip ?_
    refine hK5 _ ?_
    refine vc_seq fun K7 hK7 => ?_
    refine vc_block ?_
    have hil : i < l.length := by omega
    refine vc_region ?_
    refine vl_q (q_move rfl) (dk rfl) ?_
    refine vl_q (q_move rfl) (dk rfl) ?_
    refine vl_q (q_move rfl) (dk rfl) ?_
    refine vl_q (q_move rfl) (dk rfl) ?_
    refine vl_q (q_indexAddr_sh rfl rfl rfl rfl rfl rfl (by decide) (by omega) (get_map (i := i) hil)) (dk rfl) ?_
    refine vl_load_sp rfl rfl rfl rfl (by decide) (dk rfl) ?_
    refine vl_q (q_indexAddr rfl rfl rfl rfl rfl rfl rfl (by omega) (by omega)) (dk rfl) ?_
    refine vl_store rfl rfl rfl rfl (upto_get boolC (boolC false) l hil) rfl (Nat.le_of_ble_eq_true rfl) trivial ?_
    refine vl_nil ?_
    refine hK7 _ ?_
    refine vc_region ?_
    refine vl_q (q_move rfl) (dk rfl) ?_
    refine vl_q (q_add rfl rfl (IntWalk.i64_in _ (by omega))) (dk rfl) ?_
    refine vl_q (q_assign rfl) (dk rfl) ?_
    refine vl_nil ?_
    refine ⟨_, _, ?_, ⟨i + 1, by omega, rfl, rfl⟩, (Weak.cut _ _ _ (Nat.le_of_ble_eq_true rfl) ⟨⟨rfl, rfl⟩, ⟨rfl, rfl⟩, ⟨rfl, rfl⟩, trivial⟩ ⟨⟨Nat.le_of_ble_eq_true rfl, some_node (upto_set boolC (boolC false) l hil), belN_clo _ _ _⟩, trivial⟩ rfl)⟩
    omega
  · replace h11 := lss_nof h11
    simp only [List.length_map] at h11
    refine vl_nil ?_
    refine hK6 _ ?_
    refine vc_cond_false rfl ?_
    refine vc_exit ?_
    refine hK3 _ ?_
    refine vc_seq fun K8 hK8 => ?_
    refine vc_region ?_
    refine vl_q (q_move rfl) (dk rfl) ?_
    refine vl_q (q_assign rfl) (dk rfl) ?_
    refine vl_nil ?_
    refine hK8 _ ?_
    refine vc_ret ?_
    refine ret_g [16] rfl (.cons (res_tmp rfl) .nil) rfl rfl (by decide) ⟨Nat.le_refl _, trivial⟩ ⟨⟨_, some_node (congrArg clo (upto_full boolC (boolC false) l (by omega))), NR.clo _ _ _ _⟩, trivial⟩ trivial (Nat.zero_le _)
theorem at74 : FnAt Pg 74 Go.Proofs.Try.f74 := ⟨by kernel_rfl, rfl, by decide⟩
theorem c_laws_toStringS (l : List ByteArray) (hl : l.length ≤ 4194304) :
    Ctr Pg ty 74 [shv 1 (l.map strC)] [] (Gives (.v (.one (.hdr 16 0 l.length))) [⟨1, clo (l.map strC)⟩] []) := by
  refine ctr at74 rfl (nsK_gives rfl ⟨nsN_map strC_noSh, trivial⟩ trivial) (Nat.le_of_ble_eq_true rfl) fun w0 S0 L0 Z => ?_
  refine vc_seq fun K1 hK1 => ?_
  refine vc_region ?_
  refine vl_q (q_assign rfl) (dk rfl) ?_
  refine vl_nil ?_
  refine hK1 _ ?_
  refine vc_seq fun K2 hK2 => ?_
  refine vc_region ?_
  refine vl_q (q_move rfl) (dk rfl) ?_
  refine vl_q (q_len_sh rfl rfl rfl) (dk rfl) ?_
  simp only [List.length_map]
  refine vl_makeSlice rfl rfl rfl rfl rfl (by omega) (by omega) (by show ((16 : Nat) : Int) * _ ≤ _; omega) (by decide) (dk rfl) ?_
  refine vl_q (q_assign rfl) (dk rfl) ?_
  refine vl_nil ?_
  refine hK2 _ ?_
  refine vc_seq fun K3 hK3 => ?_
  refine vc_seq fun K4 hK4 => ?_
  refine vc_region ?_
  refine vl_q (q_assign rfl) (dk rfl) ?_
  refine vl_nil ?_
  refine hK4 _ ?_
  refine vc_block ?_
  refine vc_loop (fun mz st => ∃ i : Nat, (i ≤ l.length) ∧ mz = l.length - i ∧ st = mkSt [(0, .v (shv 1 (l.map strC))), (3, .v (.one (.hdr 16 0 l.length))), (4, .v (iv i))] [(16, ⟨1, clo (upto strC (strC ⟨#[]⟩) l i)⟩)] 17) ⟨_, _, ⟨0, by omega, rfl, rfl⟩, (Weak.cut _ _ _ (Nat.le_of_ble_eq_true rfl) ⟨⟨rfl, rfl⟩, ⟨rfl, rfl⟩, ⟨rfl, rfl⟩, trivial⟩ ⟨⟨Nat.le_of_ble_eq_true rfl, some_node (upto_zero strC (strC ⟨#[]⟩) l), belN_clo _ _ _⟩, trivial⟩ rfl)⟩ (fun mz st hI => ?_)
  obtain ⟨i, hi, hmz, rfl⟩ := hI
  refine vc_seq fun K5 hK5 => ?_
  refine vc_seq fun K6 hK6 => ?_
  refine vc_region ?_
  refine vl_q (q_move rfl) (dk rfl) ?_
  refine vl_q (q_move rfl) (dk rfl) ?_
  refine vl_q (q_len_sh rfl rfl rfl) (dk rfl) ?_
  refine vl_two (x := fun b => vv (.bool b)) _ (q_cmp rfl rfl rfl rfl) (dk rfl) (fun h11 => ?_) (fun h11 => ?_)
  · replace h11 := lss_of h11
    simp only [List.length_map] at h11
    refine vl_nil ?_
    refine hK6 _ ?_
    refine vc_cond_true rfl ?_
    refine vc_skip ?_
    refine hK5 _ ?_
    refine vc_seq fun K7 hK7 => ?_
    refine vc_block ?_
    have hil : i < l.length := by omega
    refine vc_region ?_
    refine vl_q (q_move rfl) (dk rfl) ?_
    refine vl_q (q_move rfl) (dk rfl) ?_
    refine vl_q (q_move rfl) (dk rfl) ?_
    refine vl_q (q_move rfl) (dk rfl) ?_
    refine vl_q (q_indexAddr_sh rfl rfl rfl rfl rfl rfl (by decide) (by omega) (get_map (i := i) hil)) (dk rfl) ?_
    refine vl_load_sp rfl rfl rfl rfl (by decide) (dk rfl) ?_
    refine vl_q (q_indexAddr rfl rfl rfl rfl rfl rfl rfl (by omega) (by omega)) (dk rfl) ?_
    refine vl_store rfl rfl rfl rfl (upto_get strC (strC ⟨#[]⟩) l hil) rfl (Nat.le_of_ble_eq_true rfl) trivial ?_
    refine vl_nil ?_
    refine hK7 _ ?_
    refine vc_region ?_
    refine vl_q (q_move rfl) (dk rfl) ?_
    refine vl_q (q_add rfl rfl (IntWalk.i64_in _ (by omega))) (dk rfl) ?_
    refine vl_q (q_assign rfl) (dk rfl) ?_
    refine vl_nil ?_
    refine ⟨_, _, ?_, ⟨i + 1, by omega, rfl, rfl⟩, (Weak.cut _ _ _ (Nat.le_of_ble_eq_true rfl) ⟨⟨rfl, rfl⟩, ⟨rfl, rfl⟩, ⟨rfl, rfl⟩, trivial⟩ ⟨⟨Nat.le_of_ble_eq_true rfl, some_node (upto_set strC (strC ⟨#[]⟩) l hil), belN_clo _ _ _⟩, trivial⟩ rfl)⟩
    omega
  · replace h11 := lss_nof h11
    simp only [List.length_map] at h11
    refine vl_nil ?_
    refine hK6 _ ?_
    refine vc_cond_false rfl ?_
    refine vc_exit ?_
    refine hK3 _ ?_
    refine vc_seq fun K8 hK8 => ?_
    refine vc_region ?_
    refine vl_q (q_move rfl) (dk rfl) ?_
    refine vl_q (q_assign rfl) (dk rfl) ?_
    refine vl_nil ?_
    refine hK8 _ ?_
    refine vc_ret ?_
    refine ret_g [16] rfl (.cons (res_tmp rfl) .nil) rfl rfl (by decide) ⟨Nat.le_refl _, trivial⟩ ⟨⟨_, some_node (congrArg clo (upto_full strC (strC ⟨#[]⟩) l (by omega))), NR.clo _ _ _ _⟩, trivial⟩ trivial (Nat.zero_le _)
theorem at63 : FnAt Pg 63 Go.Proofs.Try.f63 := ⟨by kernel_rfl, rfl, by decide⟩
theorem c_laws_toHeld (h : Held) (hb : szHeld h ≤ 4194304) :
    Ctr Pg ty 63 [.agg ((heldC h).map X.c)] [] (Gives (.v (heldV h 16 17)) [⟨1, clo (h.parts.map strC)⟩, ⟨1, clo (h.hav.map boolC)⟩] []) := by
  have hp : h.parts.length ≤ 4194304 := by unfold szHeld szStrs at hb; omega
  have hh : h.hav.length ≤ 4194304 := by unfold szHeld szStrs at hb; omega
  refine ctr at63 rfl (nsK_gives rfl ⟨nsN_map strC_noSh, nsN_map boolC_noSh, trivial⟩ trivial) (Nat.le_of_ble_eq_true rfl) fun w0 S0 L0 Z => ?_
  refine vc_seq fun K1 hK1 => ?_
  refine vc_region ?_
  refine vl_box rfl (dk rfl) ?_
  refine vl_alloc rfl (dk rfl) ?_
  refine vl_nil ?_
  refine hK1 _ ?_
  refine vc_seq fun K2 hK2 => ?_
  refine vc_region ?_
  refine vl_alloc rfl (dk rfl) ?_
  refine vl_nil ?_
  refine hK2 _ ?_
  refine vc_seq fun K3 hK3 => ?_
  refine vc_region ?_
  refine vl_q (q_fieldAddr 0 rfl rfl rfl rfl (by decide) rfl rfl) (dk rfl) ?_
  refine vl_load rfl rfl rfl rfl rfl rfl rfl (by decide) (dk rfl) ?_
  refine vl_q (q_fieldAddr 0 rfl rfl rfl rfl (by decide) rfl rfl) (dk rfl) ?_
  refine vl_store rfl rfl rfl rfl rfl rfl (Nat.le_of_ble_eq_true rfl) trivial ?_
  refine vl_nil ?_
  refine hK3 _ ?_
  refine vc_seq fun K4 hK4 => ?_
  refine vc_region ?_
  refine vl_q (q_fieldAddr 1 rfl rfl rfl rfl (by decide) rfl rfl) (dk rfl) ?_
  refine vl_load rfl rfl rfl rfl rfl rfl rfl (by decide) (dk rfl) ?_
  refine vl_q (q_fieldAddr 1 rfl rfl rfl rfl (by decide) rfl rfl) (dk rfl) ?_
  refine vl_store rfl rfl rfl rfl rfl rfl (Nat.le_of_ble_eq_true rfl) trivial ?_
  refine vl_nil ?_
  refine hK4 _ ?_
  refine vc_seq fun K5 hK5 => ?_
  refine vc_region ?_
  refine vl_q (q_fieldAddr 2 rfl rfl rfl rfl (by decide) rfl rfl) (dk rfl) ?_
  refine vl_load rfl rfl rfl rfl rfl rfl rfl (by decide) (dk rfl) ?_
  refine vl_q (q_fieldAddr 2 rfl rfl rfl rfl (by decide) rfl rfl) (dk rfl) ?_
  refine vl_store rfl rfl rfl rfl rfl rfl (Nat.le_of_ble_eq_true rfl) trivial ?_
  refine vl_nil ?_
  refine hK5 _ ?_
  refine vc_seq fun K6 hK6 => ?_
  refine vc_region ?_
  refine vl_q (q_fieldAddr 3 rfl rfl rfl rfl (by decide) rfl rfl) (dk rfl) ?_
  refine vl_load rfl rfl rfl rfl rfl rfl rfl (by decide) (dk rfl) ?_
  refine vl_callG [] (.v (.one (.hdr 19 0 _))) (c_laws_toStringS _ ‹_›) rfl rfl ⟨XOk.shc _ _, trivial⟩ trivial rfl (by decide) ⟨fix_clo _ _, trivial⟩ trivial rfl (.inl rfl) (dk rfl) ?_
  refine vl_q (q_fieldAddr 3 rfl rfl rfl rfl (by decide) rfl rfl) (dk rfl) ?_
  refine vl_store rfl rfl rfl rfl rfl rfl (Nat.le_of_ble_eq_true rfl) trivial ?_
  refine vl_nil ?_
  refine hK6 _ ?_
  refine vc_seq fun K7 hK7 => ?_
  refine vc_region ?_
  refine vl_q (q_fieldAddr 4 rfl rfl rfl rfl (by decide) rfl rfl) (dk rfl) ?_
  refine vl_load rfl rfl rfl rfl rfl rfl rfl (by decide) (dk rfl) ?_
  refine vl_callG [] (.v (.one (.hdr 20 0 _))) (c_laws_toBoolS _ ‹_›) rfl rfl ⟨XOk.shc _ _, trivial⟩ trivial rfl (by decide) ⟨fix_clo _ _, trivial⟩ trivial rfl (.inl rfl) (dk rfl) ?_
  refine vl_q (q_fieldAddr 4 rfl rfl rfl rfl (by decide) rfl rfl) (dk rfl) ?_
  refine vl_store rfl rfl rfl rfl rfl rfl (Nat.le_of_ble_eq_true rfl) trivial ?_
  refine vl_nil ?_
  refine hK7 _ ?_
  refine vc_seq fun K8 hK8 => ?_
  refine vc_region ?_
  refine vl_q (q_fieldAddr 5 rfl rfl rfl rfl (by decide) rfl rfl) (dk rfl) ?_
  refine vl_load rfl rfl rfl rfl rfl rfl rfl (by decide) (dk rfl) ?_
  refine vl_q (q_fieldAddr 5 rfl rfl rfl rfl (by decide) rfl rfl) (dk rfl) ?_
  refine vl_store rfl rfl rfl rfl rfl rfl (Nat.le_of_ble_eq_true rfl) trivial ?_
  refine vl_nil ?_
  refine hK8 _ ?_
  refine vc_seq fun K9 hK9 => ?_
  refine vc_region ?_
  refine vl_load rfl rfl rfl rfl rfl rfl rfl (by decide) (dk rfl) ?_
  refine vl_store rfl rfl rfl rfl rfl rfl (Nat.le_of_ble_eq_true rfl) trivial ?_
  refine vl_nil ?_
  refine hK9 _ ?_
  refine vc_ret ?_
  refine ret_g [19, 20] rfl (.cons (res_cell rfl rfl rfl rfl rfl rfl rfl (by decide)) .nil) rfl rfl (nodupB_ok rfl) ⟨by decide, by decide, trivial⟩ ⟨⟨_, rfl, NR.clo _ _ _ _⟩, ⟨_, rfl, NR.clo _ _ _ _⟩, trivial⟩ trivial (Nat.zero_le _)
theorem at42 : FnAt Pg 42 Go.Proofs.Try.f42 := ⟨by kernel_rfl, rfl, by decide⟩
theorem c_laws_toHeldS (l : List Held) (hb : szHelds l ≤ 4194304) :
    Ctr Pg ty 42 [shv 6 (l.map heldC)] [] (Gives (.v (.one (.hdr 16 0 l.length))) [⟨6, clo (l.map heldO)⟩] []) := by
  have hl : l.length ≤ 4194304 := by unfold szHelds at hb; omega
  refine ctr at42 rfl (nsK_gives rfl ⟨nsN_map heldO_noSh, trivial⟩ trivial) (Nat.le_of_ble_eq_true rfl) fun w0 S0 L0 Z => ?_
  refine vc_seq fun K1 hK1 => ?_
  refine vc_region ?_
  refine vl_q (q_assign rfl) (dk rfl) ?_
  refine vl_nil ?_
  refine hK1 _ ?_
  refine vc_seq fun K2 hK2 => ?_
  refine vc_region ?_
  refine vl_q (q_move rfl) (dk rfl) ?_
  refine vl_q (q_len_sh rfl rfl rfl) (dk rfl) ?_
  simp only [List.length_map]
  refine vl_makeSlice rfl rfl rfl rfl rfl (by omega) (by omega) (by show ((80 : Nat) : Int) * _ ≤ _; omega) (by decide) (dk rfl) ?_
  refine vl_q (q_assign rfl) (dk rfl) ?_
  refine vl_nil ?_
  refine hK2 _ ?_
  refine vc_seq fun K3 hK3 => ?_
  refine vc_seq fun K4 hK4 => ?_
  refine vc_region ?_
  refine vl_q (q_assign rfl) (dk rfl) ?_
  refine vl_nil ?_
  refine hK4 _ ?_
  refine vc_block ?_
  refine vc_loop (fun mz st => ∃ i : Nat, (i ≤ l.length) ∧ mz = l.length - i ∧ st = mkSt [(0, .v (shv 6 (l.map heldC))), (3, .v (.one (.hdr 16 0 l.length))), (4, .v (iv i))] [(16, ⟨6, clo (upto heldO heldZ l i)⟩)] 17) ⟨_, _, ⟨0, by omega, rfl, rfl⟩, (Weak.cut _ _ _ (Nat.le_of_ble_eq_true rfl) ⟨⟨rfl, rfl⟩, ⟨rfl, rfl⟩, ⟨rfl, rfl⟩, trivial⟩ ⟨⟨Nat.le_of_ble_eq_true rfl, some_node (upto_zero heldO heldZ l), belN_clo _ _ _⟩, trivial⟩ rfl)⟩ (fun mz st hI => ?_)
  obtain ⟨i, hi, hmz, rfl⟩ := hI
  refine vc_seq fun K5 hK5 => ?_
  refine vc_seq fun K6 hK6 => ?_
  refine vc_region ?_
  refine vl_q (q_move rfl) (dk rfl) ?_
  refine vl_q (q_move rfl) (dk rfl) ?_
  refine vl_q (q_len_sh rfl rfl rfl) (dk rfl) ?_
  refine vl_two (x := fun b => vv (.bool b)) _ (q_cmp rfl rfl rfl rfl) (dk rfl) (fun h11 => ?_) (fun h11 => ?_)
  · replace h11 := lss_of h11
    simp only [List.length_map] at h11
    refine vl_nil ?_
    refine hK6 _ ?_
    refine vc_cond_true rfl ?_
    refine vc_skip ?_
    refine hK5 _ ?_
    refine vc_seq fun K7 hK7 => ?_
    refine vc_block ?_
    have hil : i < l.length := by omega
    have hbi : szHeld l[i] ≤ 4194304 := by
      have h1 := sumTo_succ szHeld l hil
      have h2 := sumTo_le szHeld l (i + 1)
      unfold szHelds at hb; omega
    refine vc_region ?_
    refine vl_q (q_move rfl) (dk rfl) ?_
    refine vl_q (q_move rfl) (dk rfl) ?_
    refine vl_q (q_move rfl) (dk rfl) ?_
    refine vl_q (q_move rfl) (dk rfl) ?_
    refine vl_q (q_indexAddr_sh rfl rfl rfl rfl rfl rfl (by decide) (by omega) (get_map (i := i) hil)) (dk rfl) ?_
    refine vl_load_sp rfl rfl rfl rfl (by decide) (dk rfl) ?_
    refine vl_callG [] (.v (heldV _ 17 18)) (c_laws_toHeld l[i] hbi) rfl rfl ⟨VOk.agg ⟨XOk.val _, XOk.val _, XOk.val _, XOk.shc _ _, XOk.shc _ _, XOk.val _, trivial⟩, trivial⟩ trivial rfl (by decide) ⟨fix_clo _ _, fix_clo _ _, trivial⟩ trivial rfl (.inl rfl) (dk rfl) ?_
    refine vl_q (q_indexAddr rfl rfl rfl rfl rfl rfl rfl (by omega) (by omega)) (dk rfl) ?_
    refine vl_store rfl rfl rfl rfl (upto_get heldO heldZ l hil) rfl (Nat.le_of_ble_eq_true rfl) trivial ?_
    refine vl_nil ?_
    refine hK7 _ ?_
    refine vc_weak (Weak.close1 (nm := 16) (i := i) (j := 3) (m := 17) rfl (set_get (by rw [clo, List.length_map, upto_len _ _ _ hi]; exact hil)) rfl rfl (by simp) (by decide)) ?_
    refine vc_weak (Weak.close1 (nm := 16) (i := i) (j := 4) (m := 18) rfl (set_get (by rw [List.length_set, clo, List.length_map, upto_len _ _ _ hi]; exact hil)) rfl rfl (by simp) (by decide)) ?_
    refine vc_region ?_
    refine vl_q (q_move rfl) (dk rfl) ?_
    refine vl_q (q_add rfl rfl (IntWalk.i64_in _ (by omega))) (dk rfl) ?_
    refine vl_q (q_assign rfl) (dk rfl) ?_
    refine vl_nil ?_
    refine ⟨_, _, ?_, ⟨i + 1, by omega, rfl, rfl⟩, (Weak.cut _ _ _ (Nat.le_of_ble_eq_true rfl) ⟨⟨rfl, rfl⟩, ⟨rfl, rfl⟩, ⟨rfl, rfl⟩, trivial⟩ ⟨⟨Nat.le_of_ble_eq_true rfl, some_node ((congrArg (fun z => List.set z i _) (List.set_set _)).trans ((List.set_set _).trans (upto_set heldO heldZ l hil))), belN_clo _ _ _⟩, trivial⟩ rfl)⟩
    omega
  · replace h11 := lss_nof h11
    simp only [List.length_map] at h11
    refine vl_nil ?_
    refine hK6 _ ?_
    refine vc_cond_false rfl ?_
    refine vc_exit ?_
    refine hK3 _ ?_
    refine vc_seq fun K8 hK8 => ?_
    refine vc_region ?_
    refine vl_q (q_move rfl) (dk rfl) ?_
    refine vl_q (q_assign rfl) (dk rfl) ?_
    refine vl_nil ?_
    refine hK8 _ ?_
    refine vc_ret ?_
    refine ret_g [16] rfl (.cons (res_tmp rfl) .nil) rfl rfl (nodupB_ok rfl) ⟨Nat.le_refl _, trivial⟩ ⟨⟨_, some_node (congrArg clo (upto_full heldO heldZ l (by omega))), NR.clo _ _ _ _⟩, trivial⟩ trivial (Nat.zero_le _)
theorem at18 : FnAt Pg 18 Go.Proofs.Try.f18 := ⟨by kernel_rfl, rfl, by decide⟩
theorem c_laws_toShelf (l : List Held) (hb : szHelds l ≤ 4194304) :
    Ctr Pg ty 18 [.agg ((shelfC l).map X.c)] [] (Gives (.v (.agg [.hdr 16 0 l.length])) [⟨6, clo (l.map heldO)⟩] []) := by
  refine ctr at18 rfl (nsK_gives rfl ⟨nsN_map heldO_noSh, trivial⟩ trivial) (Nat.le_of_ble_eq_true rfl) fun w0 S0 L0 Z => ?_
  refine vc_seq fun K1 hK1 => ?_
  refine vc_region ?_
  refine vl_box rfl (dk rfl) ?_
  refine vl_alloc rfl (dk rfl) ?_
  refine vl_nil ?_
  refine hK1 _ ?_
  refine vc_seq fun K2 hK2 => ?_
  refine vc_region ?_
  refine vl_alloc rfl (dk rfl) ?_
  refine vl_nil ?_
  refine hK2 _ ?_
  refine vc_seq fun K3 hK3 => ?_
  refine vc_region ?_
  refine vl_q (q_fieldAddr 0 rfl rfl rfl rfl (by decide) rfl rfl) (dk rfl) ?_
  refine vl_load rfl rfl rfl rfl rfl rfl rfl (by decide) (dk rfl) ?_
  refine vl_callG [] (.v (.one (.hdr 19 0 _))) (c_laws_toHeldS l hb) rfl rfl ⟨XOk.shc _ _, trivial⟩ trivial rfl (by decide) ⟨fix_clo _ _, trivial⟩ trivial rfl (.inl rfl) (dk rfl) ?_
  refine vl_q (q_fieldAddr 0 rfl rfl rfl rfl (by decide) rfl rfl) (dk rfl) ?_
  refine vl_store rfl rfl rfl rfl rfl rfl (Nat.le_of_ble_eq_true rfl) trivial ?_
  refine vl_nil ?_
  refine hK3 _ ?_
  refine vc_seq fun K4 hK4 => ?_
  refine vc_region ?_
  refine vl_load rfl rfl rfl rfl rfl rfl rfl (by decide) (dk rfl) ?_
  refine vl_store rfl rfl rfl rfl rfl rfl (Nat.le_of_ble_eq_true rfl) trivial ?_
  refine vl_nil ?_
  refine hK4 _ ?_
  refine vc_ret ?_
  refine ret_g [19] rfl (.cons (res_cell rfl rfl rfl rfl rfl rfl rfl (by decide)) .nil) rfl rfl (nodupB_ok rfl) ⟨by decide, trivial⟩ ⟨⟨_, rfl, NR.clo _ _ _ _⟩, trivial⟩ trivial (Nat.zero_le _)
end Go.Vm.S
namespace Go.Vm.S
open Go Go.Vm
set_option maxRecDepth 100000
set_option linter.unusedVariables false
set_option maxHeartbeats 4000000
theorem at46 : FnAt Pg 46 Go.Proofs.Try.f46 := ⟨by kernel_rfl, rfl, by decide⟩
theorem c_laws_markHeldS (l : List Held) (k : Int) (hk : 0 ≤ k ∧ k + (sumOf wH l : Nat) ≤ 1152921504606846976) :
    Ctr Pg ty 46 [.one (.hdr 0 0 l.length), iv k] [⟨6, clo (l.map heldO)⟩] (Gives (vv (.int .i64 (k + (sumOf wH l : Nat)))) [] [⟨6, clo ((markHs k l).map heldO)⟩]) := by
  refine ctr at46 rfl (nsK_gives rfl trivial ⟨nsN_map heldO_noSh, trivial⟩) (Nat.le_of_ble_eq_true rfl) fun w0 S0 L0 Z => ?_
  refine vc_seq fun K1 hK1 => ?_
  refine vc_region ?_
  refine vl_q (q_assign rfl) (dk rfl) ?_
  refine vl_nil ?_
  refine hK1 _ ?_
  refine vc_seq fun K2 hK2 => ?_
  refine vc_seq fun K3 hK3 => ?_
  refine vc_fact (fun a w g => (good_lim_hdr (x := .tmp 0) rfl rfl g).2) fun hlen => ?_
  refine vc_region ?_
  refine vl_q (q_assign rfl) (dk rfl) ?_
  refine vl_nil ?_
  refine hK3 _ ?_
  refine vc_block ?_
  refine vc_loop (fun mz st => ∃ i : Nat, (i ≤ l.length) ∧ mz = l.length - i ∧ st = mkSt [(0, .v (.one (.hdr 0 0 l.length))), (1, .v (iv (k + (sumTo wH l i : Nat)))), (5, .v (iv i))] [(0, ⟨6, clo ((over (markHs k l) l i).map heldO)⟩)] 16) ⟨_, _, ⟨0, by omega, rfl, rfl⟩, (Weak.cut _ _ _ (Nat.le_of_ble_eq_true rfl) ⟨⟨rfl, rfl⟩, ⟨iv_eq (by rw [sumTo_zero]; omega), rfl⟩, ⟨rfl, rfl⟩, trivial⟩ ⟨⟨Nat.le_of_ble_eq_true rfl, rfl, belN_clo _ _ _⟩, trivial⟩ rfl)⟩ (fun mz st hI => ?_)
  obtain ⟨i, hi, hmz, rfl⟩ := hI
  refine vc_seq fun K4 hK4 => ?_
  refine vc_seq fun K5 hK5 => ?_
  refine vc_region ?_
  refine vl_q (q_move rfl) (dk rfl) ?_
  refine vl_q (q_move rfl) (dk rfl) ?_
  refine vl_q (q_len_hdr rfl rfl rfl) (dk rfl) ?_
  refine vl_two (x := fun b => vv (.bool b)) _ (q_cmp rfl rfl rfl rfl) (dk rfl) (fun h9 => ?_) (fun h9 => ?_)
  · replace h9 := lss_of h9
    refine vl_nil ?_
    refine hK5 _ ?_
    refine vc_cond_true rfl ?_
    refine vc_skip ?_
    refine hK4 _ ?_
    refine vc_seq fun K6 hK6 => ?_
    refine vc_block ?_
    refine vc_seq fun K7 hK7 => ?_
    have hil : i < l.length := by omega
    have hsc := sumTo_succ wH l hil
    have hsl := sumTo_le wH l (i + 1)
    have hw : wH l[i] = 4 + l[i].parts.length + l[i].hav.length := rfl
    have hlc : i < (clo ((over (markHs k l) l i).map heldO)).length := by simp only [clo, List.length_map]; rw [over_len (markHs_len k l)]; exact hil
    refine vc_region ?_
    refine vl_q (q_move rfl) (dk rfl) ?_
    refine vl_q (q_move rfl) (dk rfl) ?_
    refine vl_q (q_move rfl) (dk rfl) ?_
    refine vl_q (q_indexAddr rfl rfl rfl rfl rfl rfl rfl (by omega) (by omega)) (dk rfl) ?_
    refine vl_q (q_fieldAddr 0 rfl rfl rfl rfl (by decide) rfl rfl) (dk rfl) ?_
    refine vl_store rfl rfl rfl rfl (over_get heldO (markHs_len k l) hil) rfl (Nat.le_of_ble_eq_true rfl) trivial ?_
    refine vl_nil ?_
    refine hK7 _ ?_
    refine vc_seq fun K8 hK8 => ?_
    refine vc_region ?_
    refine vl_q (q_move rfl) (dk rfl) ?_
    refine vl_q (q_add rfl rfl (IntWalk.i64_in _ (by omega))) (dk rfl) ?_
    refine vl_q (q_assign rfl) (dk rfl) ?_
    refine vl_nil ?_
    refine hK8 _ ?_
    refine vc_seq fun K9 hK9 => ?_
    refine vc_region ?_
    refine vl_q (q_move rfl) (dk rfl) ?_
    refine vl_q (q_move rfl) (dk rfl) ?_
    refine vl_q (q_move rfl) (dk rfl) ?_
    refine vl_q (q_indexAddr rfl rfl rfl rfl rfl rfl rfl (by omega) (by omega)) (dk rfl) ?_
    refine vl_q (q_fieldAddr 1 rfl rfl rfl rfl (by decide) rfl rfl) (dk rfl) ?_
    refine vl_store rfl rfl rfl rfl (set_get hlc) rfl (Nat.le_of_ble_eq_true rfl) trivial ?_
    refine vl_nil ?_
    refine hK9 _ ?_
    refine vc_seq fun K10 hK10 => ?_
    simp only [List.set_set, Int.toNat_natCast, Nat.add_zero]
    refine vc_region ?_
    refine vl_q (q_move rfl) (dk rfl) ?_
    refine vl_q (q_add rfl rfl (IntWalk.i64_in _ (by omega))) (dk rfl) ?_
    refine vl_q (q_assign rfl) (dk rfl) ?_
    refine vl_nil ?_
    refine hK10 _ ?_
    refine vc_seq fun K11 hK11 => ?_
    refine vc_region ?_
    refine vl_q (q_move rfl) (dk rfl) ?_
    refine vl_q (q_move rfl) (dk rfl) ?_
    refine vl_q (q_move rfl) (dk rfl) ?_
    refine vl_q (q_indexAddr rfl rfl rfl rfl rfl rfl rfl (by omega) (by omega)) (dk rfl) ?_
    refine vl_q (q_fieldAddr 2 rfl rfl rfl rfl (by decide) rfl rfl) (dk rfl) ?_
    refine vl_store rfl rfl rfl rfl (set_get hlc) rfl (Nat.le_of_ble_eq_true rfl) trivial ?_
    refine vl_nil ?_
    refine hK11 _ ?_
    refine vc_seq fun K12 hK12 => ?_
    simp only [List.set_set, Int.toNat_natCast, Nat.add_zero]
    refine vc_region ?_
    refine vl_q (q_move rfl) (dk rfl) ?_
    refine vl_q (q_add rfl rfl (IntWalk.i64_in _ (by omega))) (dk rfl) ?_
    refine vl_q (q_assign rfl) (dk rfl) ?_
    refine vl_nil ?_
    refine hK12 _ ?_
    refine vc_seq fun K13 hK13 => ?_
    refine vc_region ?_
    refine vl_q (q_move rfl) (dk rfl) ?_
    refine vl_q (q_move rfl) (dk rfl) ?_
    refine vl_q (q_indexAddr rfl rfl rfl rfl rfl rfl rfl (by omega) (by omega)) (dk rfl) ?_
    refine vl_q (q_fieldAddr 3 rfl rfl rfl rfl (by decide) rfl rfl) (dk rfl) ?_
    refine vl_open (nm := 0) (i := i) (j := 3) rfl rfl rfl (set_get hlc) rfl rfl ?_
    simp only [List.set_set, List.length_map, Int.toNat_natCast, Nat.add_zero]
    refine vl_load rfl rfl rfl (set_get hlc) rfl rfl rfl (by decide) (dk rfl) ?_
    refine vl_q (q_move rfl) (dk rfl) ?_
    refine vl_callG [16] (vv (.int .i64 _)) (c_laws_markStringS l[i].parts ((k + (sumTo wH l i : Nat)) + 1 + 1 + 1) (by omega)) rfl rfl ⟨XOk.hdr rfl (by decide) _ _, XOk.val _, trivial⟩ ⟨⟨_, rfl, NR.clo _ _ _ _⟩, trivial⟩ rfl (by decide) trivial ⟨fix_clo _ _, trivial⟩ rfl (.inl rfl) (dk rfl) ?_
    refine vl_q (q_assign rfl) (dk rfl) ?_
    refine vl_nil ?_
    refine hK13 _ ?_
    refine vc_seq fun K14 hK14 => ?_
    refine vc_weak (Weak.close1 (nm := 0) (i := i) (j := 3) (m := 16) (es := (mkS ((k + (sumTo wH l i : Nat)) + 1 + 1 + 1) l[i].parts.length).map strC) rfl (set_get hlc) rfl rfl (by simp [mkS_len]) (by decide)) ?_
    simp only [List.set_set, Int.toNat_natCast, Nat.add_zero]
    refine vc_region ?_
    refine vl_q (q_move rfl) (dk rfl) ?_
    refine vl_q (q_move rfl) (dk rfl) ?_
    refine vl_q (q_indexAddr rfl rfl rfl rfl rfl rfl rfl (by omega) (by omega)) (dk rfl) ?_
    refine vl_q (q_fieldAddr 4 rfl rfl rfl rfl (by decide) rfl rfl) (dk rfl) ?_
    refine vl_open (nm := 0) (i := i) (j := 4) rfl rfl rfl (set_get hlc) rfl rfl ?_
    simp only [List.set_set, List.length_map, Int.toNat_natCast, Nat.add_zero]
    refine vl_load rfl rfl rfl (set_get hlc) rfl rfl rfl (by decide) (dk rfl) ?_
    refine vl_q (q_move rfl) (dk rfl) ?_
    refine vl_callG [17] (vv (.int .i64 _)) (c_laws_markBoolS l[i].hav ((k + (sumTo wH l i : Nat)) + 1 + 1 + 1 + l[i].parts.length) (by omega)) rfl rfl ⟨XOk.hdr rfl (by decide) _ _, XOk.val _, trivial⟩ ⟨⟨_, rfl, NR.clo _ _ _ _⟩, trivial⟩ rfl (by decide) trivial ⟨fix_clo _ _, trivial⟩ rfl (.inl rfl) (dk rfl) ?_
    refine vl_q (q_assign rfl) (dk rfl) ?_
    refine vl_nil ?_
    refine hK14 _ ?_
    refine vc_seq fun K15 hK15 => ?_
    refine vc_weak (Weak.close1 (nm := 0) (i := i) (j := 4) (m := 17) (es := (mkB ((k + (sumTo wH l i : Nat)) + 1 + 1 + 1 + l[i].parts.length) l[i].hav.length).map boolC) rfl (set_get hlc) rfl rfl (by simp [mkB_len]) (by decide)) ?_
    simp only [List.set_set, Int.toNat_natCast, Nat.add_zero]
    refine vc_region ?_
    refine vl_q (q_move rfl) (dk rfl) ?_
    refine vl_q (q_move rfl) (dk rfl) ?_
    refine vl_q (q_move rfl) (dk rfl) ?_
    refine vl_q (q_indexAddr rfl rfl rfl rfl rfl rfl rfl (by omega) (by omega)) (dk rfl) ?_
    refine vl_q (q_fieldAddr 5 rfl rfl rfl rfl (by decide) rfl rfl) (dk rfl) ?_
    refine vl_store rfl rfl rfl rfl (set_get hlc) rfl (Nat.le_of_ble_eq_true rfl) trivial ?_
    refine vl_nil ?_
    refine hK15 _ ?_
    simp only [List.set_set, Int.toNat_natCast, Nat.add_zero]
    refine vc_region ?_
    refine vl_q (q_move rfl) (dk rfl) ?_
    refine vl_q (q_add rfl rfl (IntWalk.i64_in _ (by omega))) (dk rfl) ?_
    refine vl_q (q_assign rfl) (dk rfl) ?_
    refine vl_nil ?_
    refine hK6 _ ?_
    refine vc_region ?_
    refine vl_q (q_move rfl) (dk rfl) ?_
    refine vl_q (q_add rfl rfl (IntWalk.i64_in _ (by omega))) (dk rfl) ?_
    refine vl_q (q_assign rfl) (dk rfl) ?_
    refine vl_nil ?_
    refine ⟨_, _, ?_, ⟨i + 1, by omega, rfl, rfl⟩, (Weak.cut _ _ _ (Nat.le_of_ble_eq_true rfl) ⟨⟨rfl, rfl⟩, ⟨iv_eq (by omega), rfl⟩, ⟨rfl, rfl⟩, trivial⟩ ⟨⟨Nat.le_of_ble_eq_true rfl, some_node (over_set heldO (markHs_len k l) hil (markHs_at k l hil) rfl), belN_clo _ _ _⟩, trivial⟩ rfl)⟩
    omega
  · replace h9 := lss_nof h9
    refine vl_nil ?_
    refine hK5 _ ?_
    refine vc_cond_false rfl ?_
    refine vc_exit ?_
    refine hK2 _ ?_
    refine vc_seq fun K16 hK16 => ?_
    refine vc_region ?_
    refine vl_q (q_move rfl) (dk rfl) ?_
    refine vl_q (q_assign rfl) (dk rfl) ?_
    refine vl_nil ?_
    refine hK16 _ ?_
    refine vc_ret ?_
    have hf := sumTo_full wH l (i := i) (by omega)
    refine ret_g [] rfl (.cons (res_tmp rfl) .nil) (by rw [hf]; rfl) rfl (nodupB_ok rfl) trivial trivial ⟨⟨_, some_node (congrArg (fun z => clo (List.map heldO z)) (over_full (markHs_len k l) (by omega))), NR.clo _ _ _ _⟩, trivial⟩ (Nat.le_of_ble_eq_true rfl)
theorem at21 : FnAt Pg 21 Go.Proofs.Try.f21 := ⟨by kernel_rfl, rfl, by decide⟩
theorem c_laws_markShelf (l : List Held) (k : Int) (hk : 0 ≤ k ∧ k + (sumOf wH l : Nat) ≤ 1152921504606846976) :
    Ctr Pg ty 21 [.agg [.hdr 0 0 l.length], iv k] [⟨6, clo (l.map heldO)⟩] (Gives (vv (.int .i64 (k + (sumOf wH l : Nat)))) [] [⟨6, clo ((markHs k l).map heldO)⟩]) := by
  refine ctr at21 rfl (nsK_gives rfl trivial ⟨nsN_map heldO_noSh, trivial⟩) (Nat.le_of_ble_eq_true rfl) fun w0 S0 L0 Z => ?_
  refine vc_seq fun K1 hK1 => ?_
  refine vc_region ?_
  refine vl_box rfl (dk rfl) ?_
  refine vl_q (q_assign rfl) (dk rfl) ?_
  refine vl_nil ?_
  refine hK1 _ ?_
  refine vc_seq fun K2 hK2 => ?_
  refine vc_region ?_
  refine vl_q (q_fieldAddr 0 rfl rfl rfl rfl (by decide) rfl rfl) (dk rfl) ?_
  refine vl_load rfl rfl rfl rfl rfl rfl rfl (by decide) (dk rfl) ?_
  refine vl_q (q_move rfl) (dk rfl) ?_
  refine vl_callG [0] (vv (.int .i64 _)) (c_laws_markHeldS l k hk) rfl rfl ⟨XOk.hdr rfl (by decide) _ _, XOk.val _, trivial⟩ ⟨⟨_, rfl, NR.clo _ _ _ _⟩, trivial⟩ rfl (by decide) trivial ⟨fix_clo _ _, trivial⟩ rfl (.inl rfl) (dk rfl) ?_
  refine vl_q (q_assign rfl) (dk rfl) ?_
  refine vl_nil ?_
  refine hK2 _ ?_
  refine vc_seq fun K3 hK3 => ?_
  refine vc_region ?_
  refine vl_q (q_move rfl) (dk rfl) ?_
  refine vl_q (q_assign rfl) (dk rfl) ?_
  refine vl_nil ?_
  refine hK3 _ ?_
  refine vc_ret ?_
  refine ret_g [] rfl (.cons (res_tmp rfl) .nil) rfl rfl (nodupB_ok rfl) trivial trivial ⟨⟨_, rfl, NR.clo _ _ _ _⟩, trivial⟩ (Nat.le_of_ble_eq_true rfl)
end Go.Vm.S
namespace Go.Vm.S
open Go Go.Vm
set_option maxRecDepth 100000
set_option linter.unusedVariables false
set_option maxHeartbeats 4000000
theorem at41 : FnAt Pg 41 Go.Proofs.Try.f41 := ⟨by kernel_rfl, rfl, by decide⟩
theorem c_spec_l20Copy (l : List Held) (hb : szHelds l ≤ 4194304) :
    Ctr Pg ty 41 [.agg ((shelfC l).map X.c)] [] (Gives (.v (.agg [.hdr 16 0 l.length])) [⟨6, clo (l.map heldO)⟩] []) := by
  have hl : l.length ≤ 4194304 := by unfold szHelds at hb; omega
  refine ctr at41 rfl (nsK_gives rfl ⟨nsN_map heldO_noSh, trivial⟩ trivial) (Nat.le_of_ble_eq_true rfl) fun w0 S0 L0 Z => ?_
  refine vc_seq fun K1 hK1 => ?_
  refine vc_region ?_
  refine vl_box rfl (dk rfl) ?_
  refine vl_alloc rfl (dk rfl) ?_
  refine vl_nil ?_
  refine hK1 _ ?_
  refine vc_seq fun K2 hK2 => ?_
  refine vc_region ?_
  refine vl_q (q_build rfl rfl rfl rfl rfl) (dk rfl) ?_
  refine vl_alloc rfl (dk rfl) ?_
  refine vl_store rfl rfl rfl rfl rfl rfl (Nat.le_of_ble_eq_true rfl) trivial ?_
  refine vl_nil ?_
  refine hK2 _ ?_
  refine vc_seq fun K3 hK3 => ?_
  refine vc_seq fun K4 hK4 => ?_
  refine vc_region ?_
  refine vl_q (q_assign rfl) (dk rfl) ?_
  refine vl_nil ?_
  refine hK4 _ ?_
  refine vc_block ?_
  refine vc_weak (Weak.tell1 (m := 18) (i := 0) (j := 0) rfl rfl rfl (Imp.nil 6) (one_wid rfl)) ?_
  refine vc_loop (fun mz st => ∃ i : Nat, (i ≤ l.length) ∧ mz = l.length - i ∧ st = mkSt [(1, .v (.one (.ptr 16 0 0))), (2, .v (.one (.ptr 17 0 0))), (3, .v (.one (.ptr 18 0 0))), (4, .v (iv i))] [(16, ⟨1, [[.c (.sh 6 (l.map heldC))]]⟩), (17, ⟨1, [[.c (.val (.slice none 0 0))]]⟩), (18, ⟨1, [[.c (.own 6 ((l.take i).map heldO))]]⟩)] 19) ⟨_, _, ⟨0, by omega, rfl, rfl⟩, (Weak.cut _ _ _ (Nat.le_of_ble_eq_true rfl) ⟨⟨rfl, rfl⟩, ⟨rfl, rfl⟩, ⟨rfl, rfl⟩, ⟨rfl, rfl⟩, trivial⟩ ⟨⟨Nat.le_of_ble_eq_true rfl, rfl, belN_all rfl⟩, ⟨Nat.le_of_ble_eq_true rfl, rfl, belN_all rfl⟩, ⟨Nat.le_of_ble_eq_true rfl, rfl, belN_all rfl⟩, trivial⟩ rfl)⟩ (fun mz st hI => ?_)
  obtain ⟨i, hi, hmz, rfl⟩ := hI
  refine vc_seq fun K5 hK5 => ?_
  refine vc_seq fun K6 hK6 => ?_
  refine vc_region ?_
  refine vl_q (q_move rfl) (dk rfl) ?_
  refine vl_q (q_fieldAddr 0 rfl rfl rfl rfl (by decide) rfl rfl) (dk rfl) ?_
  refine vl_load rfl rfl rfl rfl rfl rfl rfl (by decide) (dk rfl) ?_
  refine vl_q (q_len_sh rfl rfl rfl) (dk rfl) ?_
  refine vl_two (x := fun b => vv (.bool b)) _ (q_cmp rfl rfl rfl rfl) (dk rfl) (fun h11 => ?_) (fun h11 => ?_)
  · replace h11 := lss_of h11
    simp only [List.length_map] at h11
    refine vl_nil ?_
    refine hK6 _ ?_
    refine vc_cond_true rfl ?_
    refine vc_skip ?_
    refine hK5 _ ?_
    refine vc_seq fun K7 hK7 => ?_
    refine vc_block ?_
    refine vc_seq fun K8 hK8 => ?_
    have hil : i < l.length := by omega
    have hbi : szHeld l[i] ≤ 4194304 := by
      have h1 := sumTo_succ szHeld l hil
      have h2 := sumTo_le szHeld l (i + 1)
      unfold szHelds at hb; omega
    have hp : l[i].parts.length ≤ 4194304 := by unfold szHeld szStrs at hbi; omega
    have hh : l[i].hav.length ≤ 4194304 := by unfold szHeld szStrs at hbi; omega
    refine vc_region ?_
    refine vl_q (q_fieldAddr 0 rfl rfl rfl rfl (by decide) rfl rfl) (dk rfl) ?_
    refine vl_load rfl rfl rfl rfl rfl rfl rfl (by decide) (dk rfl) ?_
    refine vl_q (q_move rfl) (dk rfl) ?_
    refine vl_q (q_indexAddr_sh rfl rfl rfl rfl rfl rfl (by decide) (by omega) (get_map (i := i) hil)) (dk rfl) ?_
    refine vl_load_sp rfl rfl rfl rfl (by decide) (dk rfl) ?_
    refine vl_alloc rfl (dk rfl) ?_
    refine vl_store rfl rfl rfl rfl rfl rfl (Nat.le_of_ble_eq_true rfl) trivial ?_
    refine vl_nil ?_
    refine hK8 _ ?_
    refine vc_seq fun K9 hK9 => ?_
    refine vc_region ?_
    refine vl_bslice rfl rfl rfl rfl rfl rfl trivial (by decide) (by decide) (dk rfl) ?_
    refine vl_q (q_fieldAddr 3 rfl rfl rfl rfl (by decide) rfl rfl) (dk rfl) ?_
    refine vl_load rfl rfl rfl rfl rfl rfl rfl (by decide) (dk rfl) ?_
    refine vl_append rfl rfl rfl rfl (fun _ h => TypeDesc.noConfusion h) rfl rfl rfl (Nat.le_refl _) (src_sh rfl rfl (map_wid fun _ => rfl)) (by simp only [List.length_map]; show _ * 16 ≤ _; omega) (by simp only [List.length_map]; omega) (dk rfl) ?_
    simp only [List.drop_nil, List.take_nil, List.nil_append, List.length_map, Nat.zero_add]
    refine vl_q (q_fieldAddr 3 rfl rfl rfl rfl (by decide) rfl rfl) (dk rfl) ?_
    refine vl_store rfl rfl rfl rfl rfl rfl (Nat.le_of_ble_eq_true rfl) trivial ?_
    refine vl_nil ?_
    refine hK9 _ ?_
    refine vc_seq fun K10 hK10 => ?_
    refine vc_region ?_
    refine vl_bslice rfl rfl rfl rfl rfl rfl trivial (by decide) (by decide) (dk rfl) ?_
    refine vl_q (q_fieldAddr 4 rfl rfl rfl rfl (by decide) rfl rfl) (dk rfl) ?_
    refine vl_load rfl rfl rfl rfl rfl rfl rfl (by decide) (dk rfl) ?_
    refine vl_append rfl rfl rfl rfl (fun _ h => TypeDesc.noConfusion h) rfl rfl rfl (Nat.le_refl _) (src_sh rfl rfl (map_wid fun _ => rfl)) (by simp only [List.length_map]; show _ * 1 ≤ _; omega) (by simp only [List.length_map]; omega) (dk rfl) ?_
    simp only [List.drop_nil, List.take_nil, List.nil_append, List.length_map, Nat.zero_add]
    refine vl_q (q_fieldAddr 4 rfl rfl rfl rfl (by decide) rfl rfl) (dk rfl) ?_
    refine vl_store rfl rfl rfl rfl rfl rfl (Nat.le_of_ble_eq_true rfl) trivial ?_
    refine vl_nil ?_
    refine hK10 _ ?_
    refine vc_region ?_
    refine vl_q (q_fieldAddr 0 rfl rfl rfl rfl (by decide) rfl rfl) (dk rfl) ?_
    refine vl_open (nm := 18) (i := 0) (j := 0) rfl rfl rfl rfl rfl rfl ?_
    simp only [List.length_map, List.length_take, Nat.min_eq_left hi]
    refine vl_load rfl rfl rfl rfl rfl rfl rfl (by decide) (dk rfl) ?_
    refine vl_load rfl rfl rfl rfl rfl rfl rfl (by decide) (dk rfl) ?_
    refine vl_bslice rfl rfl rfl rfl rfl rfl ⟨rfl, trivial⟩ (by decide) (by decide) (dk rfl) ?_
    refine vl_append rfl rfl rfl rfl (fun _ h => TypeDesc.noConfusion h) rfl rfl rfl (by rw [Nat.zero_add]; exact Nat.le_of_eq (by simp; omega)) (src_row rfl rfl rfl rfl) (by show (i + 1) * 80 ≤ _; omega) (by show i + 1 < _; omega) (dk rfl) ?_
    refine vl_q (q_fieldAddr 0 rfl rfl rfl rfl (by decide) rfl rfl) (dk rfl) ?_
    refine vl_store rfl rfl rfl rfl rfl rfl (Nat.le_of_ble_eq_true rfl) trivial ?_
    refine vl_nil ?_
    refine hK7 _ ?_
    refine vc_weak (Weak.node (m := 26) rfl (congrArg (Vm.Node.mk 6) (app_take (take_map_len (f := heldO) hi)))) ?_
    refine vc_weak (Weak.close1 (nm := 26) (i := i) (j := 3) (m := 21) (es := l[i].parts.map strC) rfl (app_get (take_map_len hi)) rfl rfl (by simp) (by decide)) ?_
    refine vc_weak (Weak.close1 (nm := 26) (i := i) (j := 4) (m := 23) (es := l[i].hav.map boolC) rfl (set_get (app_lt (take_map_len hi))) rfl rfl (by simp) (by decide)) ?_
    refine vc_weak (Weak.node (m := 26) (nd' := ⟨6, clo ((l.take (i + 1)).map heldO)⟩) rfl (congrArg (Vm.Node.mk 6) ((List.set_set _).trans ((app_set (take_map_len hi)).trans (clo_snoc.trans (congrArg clo (take_map_snoc (f := heldO) hil))))))) ?_
    refine vc_weak (Weak.close1 (nm := 18) (i := 0) (j := 0) (m := 26) (es := (l.take (i + 1)).map heldO) rfl rfl rfl rfl (by simp; omega) (by decide)) ?_
    refine vc_region ?_
    refine vl_q (q_move rfl) (dk rfl) ?_
    refine vl_q (q_add rfl rfl (IntWalk.i64_in _ (by omega))) (dk rfl) ?_
    refine vl_q (q_assign rfl) (dk rfl) ?_
    refine vl_nil ?_
    refine ⟨_, _, ?_, ⟨i + 1, by omega, rfl, rfl⟩, (Weak.cut _ _ _ (Nat.le_of_ble_eq_true rfl) ⟨⟨rfl, rfl⟩, ⟨rfl, rfl⟩, ⟨rfl, rfl⟩, ⟨rfl, rfl⟩, trivial⟩ ⟨⟨Nat.le_of_ble_eq_true rfl, rfl, belN_all rfl⟩, ⟨Nat.le_of_ble_eq_true rfl, rfl, belN_all rfl⟩, ⟨Nat.le_of_ble_eq_true rfl, rfl, belN_all rfl⟩, trivial⟩ rfl)⟩
    omega
  · replace h11 := lss_nof h11
    simp only [List.length_map] at h11
    refine vl_nil ?_
    refine hK6 _ ?_
    refine vc_cond_false rfl ?_
    refine vc_exit ?_
    refine hK3 _ ?_
    refine vc_seq fun K11 hK11 => ?_
    obtain rfl : i = l.length := by omega
    refine vc_weak (Weak.node (m := 18) (nd' := ⟨1, [[.c (.own 6 (l.map heldO))]]⟩) rfl (by rw [List.take_length])) ?_
    refine vc_region ?_
    refine vl_open (nm := 18) (i := 0) (j := 0) rfl rfl rfl rfl rfl rfl ?_
    simp only [List.length_map]
    refine vl_load rfl rfl rfl rfl rfl rfl rfl (by decide) (dk rfl) ?_
    refine vl_store rfl rfl rfl rfl rfl rfl (Nat.le_of_ble_eq_true rfl) trivial ?_
    refine vl_nil ?_
    refine hK11 _ ?_
    refine vc_ret ?_
    refine ret_g [19] rfl (.cons (res_cell rfl rfl rfl rfl rfl rfl rfl (by decide)) .nil) rfl rfl (nodupB_ok rfl) ⟨by decide, trivial⟩ ⟨⟨_, rfl, NR.clo _ _ _ _⟩, trivial⟩ trivial (Nat.zero_le _)
end Go.Vm.S
namespace Go.Vm.S
open Go Go.Vm
set_option maxRecDepth 100000
set_option linter.unusedVariables false
set_option maxHeartbeats 4000000
theorem at17 : FnAt Pg 17 Go.Proofs.Try.f17 := ⟨by kernel_rfl, rfl, by decide⟩
theorem c_spec_TidyShelf (l : List Held) (now : Int) (hb : szHelds l ≤ 4194304) (hb2 : szHelds (kept now l) ≤ 4194304) :
    Ctr Pg ty 17 [.agg ((shelfC l).map X.c), iv now] [] (Gives (.v (.agg [.hdr 16 0 (kept now l).length])) [⟨6, clo ((kept now l).map heldO)⟩] []) := by
  have hl : l.length ≤ 4194304 := by unfold szHelds at hb; omega
  refine ctr at17 rfl (nsK_gives rfl ⟨nsN_map heldO_noSh, trivial⟩ trivial) (Nat.le_of_ble_eq_true rfl) fun w0 S0 L0 Z => ?_
  refine vc_seq fun K1 hK1 => ?_
  refine vc_region ?_
  refine vl_box rfl (dk rfl) ?_
  refine vl_alloc rfl (dk rfl) ?_
  refine vl_nil ?_
  refine hK1 _ ?_
  refine vc_seq fun K2 hK2 => ?_
  refine vc_region ?_
  refine vl_q (q_build rfl rfl rfl rfl rfl) (dk rfl) ?_
  refine vl_alloc rfl (dk rfl) ?_
  refine vl_store rfl rfl rfl rfl rfl rfl (Nat.le_of_ble_eq_true rfl) trivial ?_
  refine vl_nil ?_
  refine hK2 _ ?_
  refine vc_seq fun K3 hK3 => ?_
  refine vc_seq fun K4 hK4 => ?_
  refine vc_region ?_
  refine vl_q (q_assign rfl) (dk rfl) ?_
  refine vl_nil ?_
  refine hK4 _ ?_
  refine vc_block ?_
  refine vc_weak (Weak.tell1 (m := 18) (i := 0) (j := 0) rfl rfl rfl (Imp.nil 6) (one_wid rfl)) ?_
  refine vc_loop (fun mz st => ∃ i : Nat, (i ≤ l.length) ∧ mz = l.length - i ∧ st = mkSt [(1, .v (iv now)), (2, .v (.one (.ptr 16 0 0))), (4, .v (.one (.ptr 17 0 0))), (5, .v (.one (.ptr 18 0 0))), (6, .v (iv i))] [(16, ⟨1, [[.c (.sh 6 (l.map heldC))]]⟩), (17, ⟨1, [[.c (.val (.slice none 0 0))]]⟩), (18, ⟨1, [[.c (.own 6 ((kept now (l.take i)).map heldC))]]⟩)] 19) ⟨_, _, ⟨0, by omega, rfl, rfl⟩, (Weak.cut _ _ _ (Nat.le_of_ble_eq_true rfl) ⟨⟨rfl, rfl⟩, ⟨rfl, rfl⟩, ⟨rfl, rfl⟩, ⟨rfl, rfl⟩, ⟨rfl, rfl⟩, trivial⟩ ⟨⟨Nat.le_of_ble_eq_true rfl, rfl, belN_all rfl⟩, ⟨Nat.le_of_ble_eq_true rfl, rfl, belN_all rfl⟩, ⟨Nat.le_of_ble_eq_true rfl, rfl, belN_all rfl⟩, trivial⟩ rfl)⟩ (fun mz st hI => ?_)
  obtain ⟨i, hi, hmz, rfl⟩ := hI
  refine vc_seq fun K5 hK5 => ?_
  refine vc_seq fun K6 hK6 => ?_
  refine vc_region ?_
  refine vl_q (q_move rfl) (dk rfl) ?_
  refine vl_q (q_fieldAddr 0 rfl rfl rfl rfl (by decide) rfl rfl) (dk rfl) ?_
  refine vl_load rfl rfl rfl rfl rfl rfl rfl (by decide) (dk rfl) ?_
  refine vl_q (q_len_sh rfl rfl rfl) (dk rfl) ?_
  refine vl_two (x := fun b => vv (.bool b)) _ (q_cmp rfl rfl rfl rfl) (dk rfl) (fun h12 => ?_) (fun h12 => ?_)
  · replace h12 := lss_of h12
    simp only [List.length_map] at h12
    refine vl_nil ?_
    refine hK6 _ ?_
    refine vc_cond_true rfl ?_
    refine vc_skip ?_
    refine hK5 _ ?_
    refine vc_seq fun K7 hK7 => ?_
    refine vc_block ?_
    refine vc_seq fun K8 hK8 => ?_
    have hil : i < l.length := by omega
    have hkl := kept_len now l i
    refine vc_region ?_
    refine vl_q (q_fieldAddr 0 rfl rfl rfl rfl (by decide) rfl rfl) (dk rfl) ?_
    refine vl_load rfl rfl rfl rfl rfl rfl rfl (by decide) (dk rfl) ?_
    refine vl_q (q_move rfl) (dk rfl) ?_
    refine vl_q (q_indexAddr_sh rfl rfl rfl rfl rfl rfl (by decide) (by omega) (get_map (i := i) hil)) (dk rfl) ?_
    refine vl_q (q_fieldAddr_sp rfl rfl rfl rfl (by decide) rfl) (dk rfl) ?_
    refine vl_load_sp rfl rfl rfl rfl (by decide) (dk rfl) ?_
    refine vl_q (q_move rfl) (dk rfl) ?_
    refine vl_two (x := fun b => vv (.bool b)) _ (q_cmp rfl rfl rfl rfl) (dk rfl) (fun h22 => ?_) (fun h22 => ?_)
    · replace h22 := gtr_of h22
      refine vl_nil ?_
      refine hK8 _ ?_
      refine vc_cond_true rfl ?_
      refine vc_weak (Weak.open1 (nm := 18) (i := 0) (j := 0) rfl rfl rfl) ?_
      simp only [List.length_map]
      refine vc_region_any mixed (fun n => Nat.beq n 16) true rfl rfl (fun _ hU9 => hU9) fun w1 S1 L1 Z1 H1 => ?_
      refine va_q 0 rfl (by kernel_rfl) (by kernel_rfl) (by kernel_rfl) (q_fieldAddr 0 rfl rfl rfl rfl (by decide) rfl rfl) (dk rfl) ?_
      refine va_q 2 rfl (by kernel_rfl) (by kernel_rfl) (by kernel_rfl) (q_fieldAddr 0 rfl rfl rfl rfl (by decide) rfl rfl) (dk rfl) ?_
      refine va_q 3 rfl (by kernel_rfl) (by kernel_rfl) (by kernel_rfl) (q_load rfl rfl rfl rfl rfl rfl rfl (by decide)) (dk rfl) ?_
      refine va_q 4 rfl (by kernel_rfl) (by kernel_rfl) (by kernel_rfl) (q_move rfl) (dk rfl) ?_
      refine va_q 5 rfl (by kernel_rfl) (by kernel_rfl) (by kernel_rfl) (q_indexAddr_sh rfl rfl rfl rfl rfl rfl (by decide) (by omega) (get_map (i := i) hil)) (dk rfl) ?_
      refine va_q 6 rfl (by kernel_rfl) (by kernel_rfl) (by kernel_rfl) (q_load_sp rfl rfl rfl rfl rfl (by decide)) (dk rfl) ?_
      refine va_all [1, 7] (by kernel_rfl) (by simp) ⟨⟨_, rfl, ?_⟩, ⟨_, rfl, ?_⟩, trivial⟩
      · refine vl_load rfl rfl rfl rfl rfl rfl rfl (by decide) (dk rfl) ?_
        refine vl_nil ?_
        refine va_all [7] (by kernel_rfl) (by simp) ⟨⟨_, rfl, ?_⟩, trivial⟩
        refine vl_bslice rfl rfl rfl rfl rfl rfl ⟨rfl, trivial⟩ (by decide) (by decide) (dk rfl) ?_
        refine vl_nil ?_
        refine va_all [8] (by kernel_rfl) (by simp) ⟨⟨_, rfl, ?_⟩, trivial⟩
        refine vl_append rfl rfl rfl rfl (fun _ h => TypeDesc.noConfusion h) rfl rfl rfl (by rw [Nat.zero_add]; exact Nat.le_of_eq (by simp)) (src_row rfl rfl rfl rfl) (by show (_ + 1) * 80 ≤ _; omega) (by show _ + 1 < _; omega) (dk rfl) ?_
        refine vl_nil ?_
        refine va_q 9 rfl (by kernel_rfl) (by kernel_rfl) (by kernel_rfl) (q_fieldAddr 0 rfl rfl rfl rfl (by decide) rfl rfl) (dk rfl) ?_
        refine va_all [10] (by kernel_rfl) (by simp) ⟨⟨_, rfl, ?_⟩, trivial⟩
        refine vl_store rfl rfl rfl rfl rfl rfl (Nat.le_of_ble_eq_true rfl) trivial ?_
        refine vl_nil ?_
        refine va_done (by kernel_rfl) ?_
        refine hK7 _ ?_
        refine vc_weak (Weak.node (m := 21) (nd' := ⟨6, clo ((kept now (l.take (i + 1))).map heldC)⟩) rfl (congrArg (Vm.Node.mk 6) ((app_take (by simp)).trans (clo_snoc.trans (congrArg clo (by rw [kept_succ_t hil h22, List.map_append]; rfl)))))) ?_
        refine vc_weak (Weak.close1 (nm := 18) (i := 0) (j := 0) (m := 21) (es := (kept now (l.take (i + 1))).map heldC) rfl rfl rfl rfl (by rw [kept_succ_t hil h22]; simp) (by decide)) ?_
        refine vc_region ?_
        refine vl_q (q_move rfl) (dk rfl) ?_
        refine vl_q (q_add rfl rfl (IntWalk.i64_in _ (by omega))) (dk rfl) ?_
        refine vl_q (q_assign rfl) (dk rfl) ?_
        refine vl_nil ?_
        refine ⟨_, _, ?_, ⟨i + 1, by omega, rfl, rfl⟩, (Weak.cut _ _ _ (Nat.le_of_ble_eq_true rfl) ⟨⟨rfl, rfl⟩, ⟨rfl, rfl⟩, ⟨rfl, rfl⟩, ⟨rfl, rfl⟩, ⟨rfl, rfl⟩, trivial⟩ ⟨⟨Nat.le_of_ble_eq_true rfl, rfl, belN_all rfl⟩, ⟨Nat.le_of_ble_eq_true rfl, rfl, belN_all rfl⟩, ⟨Nat.le_of_ble_eq_true rfl, rfl, belN_all rfl⟩, trivial⟩ rfl)⟩
        omega
      · refine vl_bslice rfl rfl rfl rfl rfl rfl ⟨rfl, trivial⟩ (by decide) (by decide) (dk rfl) ?_
        refine vl_nil ?_
        refine va_all [1] (by kernel_rfl) (by simp) ⟨⟨_, rfl, ?_⟩, trivial⟩
        refine vl_load rfl rfl rfl rfl rfl rfl rfl (by decide) (dk rfl) ?_
        refine vl_nil ?_
        refine va_all [8] (by kernel_rfl) (by simp) ⟨⟨_, rfl, ?_⟩, trivial⟩
        refine vl_append rfl rfl rfl rfl (fun _ h => TypeDesc.noConfusion h) rfl rfl rfl (by rw [Nat.zero_add]; exact Nat.le_of_eq (by simp)) (src_row rfl rfl rfl rfl) (by show (_ + 1) * 80 ≤ _; omega) (by show _ + 1 < _; omega) (dk rfl) ?_
        refine vl_nil ?_
        refine va_q 9 rfl (by kernel_rfl) (by kernel_rfl) (by kernel_rfl) (q_fieldAddr 0 rfl rfl rfl rfl (by decide) rfl rfl) (dk rfl) ?_
        refine va_all [10] (by kernel_rfl) (by simp) ⟨⟨_, rfl, ?_⟩, trivial⟩
        refine vl_store rfl rfl rfl rfl rfl rfl (Nat.le_of_ble_eq_true rfl) trivial ?_
        refine vl_nil ?_
        refine va_done (by kernel_rfl) ?_
        refine hK7 _ ?_
        refine vc_weak (Weak.node (m := 21) (nd' := ⟨6, clo ((kept now (l.take (i + 1))).map heldC)⟩) rfl (congrArg (Vm.Node.mk 6) ((app_take (by simp)).trans (clo_snoc.trans (congrArg clo (by rw [kept_succ_t hil h22, List.map_append]; rfl)))))) ?_
        refine vc_weak (Weak.close1 (nm := 18) (i := 0) (j := 0) (m := 21) (es := (kept now (l.take (i + 1))).map heldC) rfl rfl rfl rfl (by rw [kept_succ_t hil h22]; simp) (by decide)) ?_
        refine vc_region ?_
        refine vl_q (q_move rfl) (dk rfl) ?_
        refine vl_q (q_add rfl rfl (IntWalk.i64_in _ (by omega))) (dk rfl) ?_
        refine vl_q (q_assign rfl) (dk rfl) ?_
        refine vl_nil ?_
        refine ⟨_, _, ?_, ⟨i + 1, by omega, rfl, rfl⟩, (Weak.cut _ _ _ (Nat.le_of_ble_eq_true rfl) ⟨⟨rfl, rfl⟩, ⟨rfl, rfl⟩, ⟨rfl, rfl⟩, ⟨rfl, rfl⟩, ⟨rfl, rfl⟩, trivial⟩ ⟨⟨Nat.le_of_ble_eq_true rfl, rfl, belN_all rfl⟩, ⟨Nat.le_of_ble_eq_true rfl, rfl, belN_all rfl⟩, ⟨Nat.le_of_ble_eq_true rfl, rfl, belN_all rfl⟩, trivial⟩ rfl)⟩
        omega
    · replace h22 := gtr_nof h22
      refine vl_nil ?_
      refine hK8 _ ?_
      refine vc_cond_false rfl ?_
      refine vc_skip ?_
      refine hK7 _ ?_
      refine vc_weak (Weak.node (m := 18) (nd' := ⟨1, [[.c (.own 6 ((kept now (l.take (i + 1))).map heldC))]]⟩) rfl (by rw [kept_succ_f hil h22])) ?_
      refine vc_region ?_
      refine vl_q (q_move rfl) (dk rfl) ?_
      refine vl_q (q_add rfl rfl (IntWalk.i64_in _ (by omega))) (dk rfl) ?_
      refine vl_q (q_assign rfl) (dk rfl) ?_
      refine vl_nil ?_
      refine ⟨_, _, ?_, ⟨i + 1, by omega, rfl, rfl⟩, (Weak.cut _ _ _ (Nat.le_of_ble_eq_true rfl) ⟨⟨rfl, rfl⟩, ⟨rfl, rfl⟩, ⟨rfl, rfl⟩, ⟨rfl, rfl⟩, ⟨rfl, rfl⟩, trivial⟩ ⟨⟨Nat.le_of_ble_eq_true rfl, rfl, belN_all rfl⟩, ⟨Nat.le_of_ble_eq_true rfl, rfl, belN_all rfl⟩, ⟨Nat.le_of_ble_eq_true rfl, rfl, belN_all rfl⟩, trivial⟩ rfl)⟩
      omega
  · replace h12 := lss_nof h12
    simp only [List.length_map] at h12
    refine vl_nil ?_
    refine hK6 _ ?_
    refine vc_cond_false rfl ?_
    refine vc_exit ?_
    refine hK3 _ ?_
    refine vc_seq fun K10 hK10 => ?_
    obtain rfl : i = l.length := by omega
    refine vc_weak (Weak.node (m := 18) (nd' := ⟨1, [[.c (.own 6 ((kept now l).map heldC))]]⟩) rfl (by rw [List.take_length])) ?_
    refine vc_region ?_
    refine vl_open (nm := 18) (i := 0) (j := 0) rfl rfl rfl rfl rfl rfl ?_
    simp only [List.length_map]
    refine vl_load rfl rfl rfl rfl rfl rfl rfl (by decide) (dk rfl) ?_
    refine vl_callG [] (.v (.agg [.hdr 20 0 _])) (c_spec_l20Copy (kept now l) hb2) rfl rfl ⟨VOk.agg ⟨XOk.snapH rfl (by simp) (by simp) (map_wid fun _ => rfl) (heldsC_shr _), trivial⟩, trivial⟩ trivial rfl (by decide) ⟨fix_clo _ _, trivial⟩ trivial rfl (.inl rfl) (dk rfl) ?_
    refine vl_store rfl rfl rfl rfl rfl rfl (Nat.le_of_ble_eq_true rfl) trivial ?_
    refine vl_nil ?_
    refine hK10 _ ?_
    refine vc_ret ?_
    refine ret_g [20] rfl (.cons (res_cell rfl rfl rfl rfl rfl rfl rfl (by decide)) .nil) rfl rfl (nodupB_ok rfl) ⟨by decide, trivial⟩ ⟨⟨_, rfl, NR.clo _ _ _ _⟩, trivial⟩ trivial (Nat.zero_le _)
end Go.Vm.S
namespace Go.Vm.S
open Go Go.Vm
set_option maxRecDepth 100000
set_option linter.unusedVariables false
set_option maxHeartbeats 4000000
theorem at55 : FnAt Pg 55 Go.Proofs.Try.f55 := ⟨by kernel_rfl, rfl, by decide⟩
theorem c_impl_copyTexts (l : List ByteArray) (hl : l.length ≤ 4194304) :
    Ctr Pg ty 55 [shv 1 (l.map strC)] [] (Gives (.v (.one (.hdr 16 0 l.length))) [⟨1, clo (l.map strC)⟩] []) := by
  refine ctr at55 rfl (nsK_gives rfl ⟨nsN_map strC_noSh, trivial⟩ trivial) (Nat.le_of_ble_eq_true rfl) fun w0 S0 L0 Z => ?_
  refine vc_seq fun K1 hK1 => ?_
  refine vc_region ?_
  refine vl_q (q_assign rfl) (dk rfl) ?_
  refine vl_nil ?_
  refine hK1 _ ?_
  refine vc_seq fun K2 hK2 => ?_
  refine vc_region ?_
  refine vl_bslice rfl rfl rfl rfl rfl rfl trivial (by decide) (by decide) (dk rfl) ?_
  refine vl_q (q_move rfl) (dk rfl) ?_
  refine vl_append rfl rfl rfl rfl (fun _ h => TypeDesc.noConfusion h) rfl rfl rfl (Nat.le_refl _) (src_sh rfl rfl (map_wid fun _ => rfl)) (by simp only [List.length_map]; show _ * 16 ≤ _; omega) (by simp only [List.length_map]; omega) (dk rfl) ?_
  simp only [List.drop_nil, List.take_nil, List.nil_append, List.length_map, Nat.zero_add]
  refine vl_q (q_assign rfl) (dk rfl) ?_
  refine vl_nil ?_
  refine hK2 _ ?_
  refine vc_ret ?_
  refine ret_g [17] rfl (.cons (res_tmp rfl) .nil) rfl rfl (nodupB_ok rfl) ⟨by decide, trivial⟩ ⟨⟨_, rfl, NR.clo _ _ _ _⟩, trivial⟩ trivial (Nat.zero_le _)
theorem at33 : FnAt Pg 33 Go.Proofs.Try.f33 := ⟨by kernel_rfl, rfl, by decide⟩
theorem c_impl_copyShelf (l : List Held) (hb : szHelds l ≤ 4194304) :
    Ctr Pg ty 33 [.agg ((shelfC l).map X.c)] [] (Gives (.v (.agg [.hdr 16 0 l.length])) [⟨6, clo (l.map heldO)⟩] []) := by
  have hl : l.length ≤ 4194304 := by unfold szHelds at hb; omega
  refine ctr at33 rfl (nsK_gives rfl ⟨nsN_map heldO_noSh, trivial⟩ trivial) (Nat.le_of_ble_eq_true rfl) fun w0 S0 L0 Z => ?_
  refine vc_seq fun K1 hK1 => ?_
  refine vc_region ?_
  refine vl_box rfl (dk rfl) ?_
  refine vl_alloc rfl (dk rfl) ?_
  refine vl_nil ?_
  refine hK1 _ ?_
  refine vc_seq fun K2 hK2 => ?_
  refine vc_region ?_
  refine vl_q (q_build rfl rfl rfl rfl rfl) (dk rfl) ?_
  refine vl_alloc rfl (dk rfl) ?_
  refine vl_store rfl rfl rfl rfl rfl rfl (Nat.le_of_ble_eq_true rfl) trivial ?_
  refine vl_nil ?_
  refine hK2 _ ?_
  refine vc_seq fun K3 hK3 => ?_
  refine vc_seq fun K4 hK4 => ?_
  refine vc_region ?_
  refine vl_q (q_fieldAddr 0 rfl rfl rfl rfl (by decide) rfl rfl) (dk rfl) ?_
  refine vl_load rfl rfl rfl rfl rfl rfl rfl (by decide) (dk rfl) ?_
  refine vl_q (q_len_sh rfl rfl rfl) (dk rfl) ?_
  simp only [List.length_map]
  refine vl_q (q_move rfl) (dk rfl) ?_
  refine vl_nil ?_
  refine hK4 _ ?_
  refine vc_block ?_
  refine vc_weak (Weak.tell1 (m := 18) (i := 0) (j := 0) rfl rfl rfl (Imp.nil 6) (one_wid rfl)) ?_
  refine vc_loop (fun mz st => ∃ i : Nat, (i ≤ l.length) ∧ mz = l.length - i ∧ st = mkSt [(2, .v (.one (.ptr 17 0 0))), (3, .v (.one (.ptr 18 0 0))), (8, .v (shv 6 (l.map heldC))), (9, .v (iv l.length)), (10, .v (iv i))] [(16, ⟨1, [[.c (.sh 6 (l.map heldC))]]⟩), (17, ⟨1, [[.c (.val (.slice none 0 0))]]⟩), (18, ⟨1, [[.c (.own 6 ((l.take i).map heldO))]]⟩)] 19) ⟨_, _, ⟨0, by omega, rfl, rfl⟩, (Weak.cut _ _ _ (Nat.le_of_ble_eq_true rfl) ⟨⟨rfl, rfl⟩, ⟨rfl, rfl⟩, ⟨rfl, rfl⟩, ⟨rfl, rfl⟩, ⟨rfl, rfl⟩, trivial⟩ ⟨⟨Nat.le_of_ble_eq_true rfl, rfl, belN_all rfl⟩, ⟨Nat.le_of_ble_eq_true rfl, rfl, belN_all rfl⟩, ⟨Nat.le_of_ble_eq_true rfl, rfl, belN_all rfl⟩, trivial⟩ rfl)⟩ (fun mz st hI => ?_)
  obtain ⟨i, hi, hmz, rfl⟩ := hI
  refine vc_seq fun K5 hK5 => ?_
  refine vc_region ?_
  refine vl_two (x := fun b => vv (.bool b)) _ (q_cmp rfl rfl rfl rfl) (dk rfl) (fun h11 => ?_) (fun h11 => ?_)
  · replace h11 := lss_of h11
    refine vl_nil ?_
    refine hK5 _ ?_
    refine vc_seq fun K6 hK6 => ?_
    refine vc_cond_true rfl ?_
    refine vc_skip ?_
    refine hK6 _ ?_
    refine vc_seq fun K7 hK7 => ?_
    refine vc_block ?_
    refine vc_seq fun K8 hK8 => ?_
    have hil : i < l.length := by omega
    have hbi : szHeld l[i] ≤ 4194304 := by
      have h1 := sumTo_succ szHeld l hil
      have h2 := sumTo_le szHeld l (i + 1)
      unfold szHelds at hb; omega
    have hp : l[i].parts.length ≤ 4194304 := by unfold szHeld szStrs at hbi; omega
    have hh : l[i].hav.length ≤ 4194304 := by unfold szHeld szStrs at hbi; omega
    refine vc_region ?_
    refine vl_q (q_indexAddr_sh rfl rfl rfl rfl rfl rfl (by decide) (by omega) (get_map (i := i) hil)) (dk rfl) ?_
    refine vl_load_sp rfl rfl rfl rfl (by decide) (dk rfl) ?_
    refine vl_alloc rfl (dk rfl) ?_
    refine vl_store rfl rfl rfl rfl rfl rfl (Nat.le_of_ble_eq_true rfl) trivial ?_
    refine vl_nil ?_
    refine hK8 _ ?_
    refine vc_seq fun K9 hK9 => ?_
    refine vc_region_any mixed (fun n => false) true rfl rfl (fun _ hU10 => hU10) fun w1 S1 L1 Z1 H1 => ?_
    refine va_q 0 rfl (by kernel_rfl) (by kernel_rfl) (by kernel_rfl) (q_fieldAddr 3 rfl rfl rfl rfl (by decide) rfl rfl) (dk rfl) ?_
    refine va_q 4 rfl (by kernel_rfl) (by kernel_rfl) (by kernel_rfl) (q_fieldAddr 4 rfl rfl rfl rfl (by decide) rfl rfl) (dk rfl) ?_
    refine va_all [1, 3, 5] (by kernel_rfl) (by simp) ⟨⟨_, rfl, ?_⟩, ⟨_, rfl, ?_⟩, ⟨_, rfl, ?_⟩, trivial⟩
    · refine vl_load rfl rfl rfl rfl rfl rfl rfl (by decide) (dk rfl) ?_
      refine vl_nil ?_
      refine va_all [2, 3, 5] (by kernel_rfl) (by simp) ⟨⟨_, rfl, ?_⟩, ⟨_, rfl, ?_⟩, ⟨_, rfl, ?_⟩, trivial⟩
      · refine vl_callG [] (.v (.one (.hdr 20 0 _))) (c_impl_copyTexts l[i].parts hp) rfl rfl ⟨XOk.shc _ _, trivial⟩ trivial rfl (by decide) ⟨fix_clo _ _, trivial⟩ trivial rfl (.inr ⟨rfl, ⟨nzN_map strC_noZ, trivial⟩, trivial⟩) (dk rfl) ?_
        refine vl_nil ?_
        refine va_all [3, 5] (by kernel_rfl) (by simp) ⟨⟨_, rfl, ?_⟩, ⟨_, rfl, ?_⟩, trivial⟩
        · refine vl_bslice rfl rfl rfl rfl rfl rfl trivial (by decide) (by decide) (dk rfl) ?_
          refine vl_nil ?_
          refine va_all [5] (by kernel_rfl) (by simp) ⟨⟨_, rfl, ?_⟩, trivial⟩
          refine vl_load rfl rfl rfl rfl rfl rfl rfl (by decide) (dk rfl) ?_
          refine vl_nil ?_
          refine va_q 7 rfl (by kernel_rfl) (by kernel_rfl) (by kernel_rfl) (q_fieldAddr 3 rfl rfl rfl rfl (by decide) rfl rfl) (dk rfl) ?_
          refine va_all [6] (by kernel_rfl) (by simp) ⟨⟨_, rfl, ?_⟩, trivial⟩
          refine vl_append rfl rfl rfl rfl (fun _ h => TypeDesc.noConfusion h) rfl rfl rfl (Nat.le_refl _) (src_sh rfl rfl (map_wid fun _ => rfl)) (by simp only [List.length_map]; show _ * 1 ≤ _; omega) (by simp only [List.length_map]; omega) (dk rfl) ?_
          simp only [List.drop_nil, List.take_nil, List.nil_append, List.length_map, Nat.zero_add]
          refine vl_nil ?_
          refine va_all [8] (by kernel_rfl) (by simp) ⟨⟨_, rfl, ?_⟩, trivial⟩
          refine vl_store rfl rfl rfl rfl rfl rfl (Nat.le_of_ble_eq_true rfl) trivial ?_
          refine vl_nil ?_
          refine va_q 9 rfl (by kernel_rfl) (by kernel_rfl) (by kernel_rfl) (q_fieldAddr 4 rfl rfl rfl rfl (by decide) rfl rfl) (dk rfl) ?_
          refine va_all [10] (by kernel_rfl) (by simp) ⟨⟨_, rfl, ?_⟩, trivial⟩
          refine vl_store rfl rfl rfl rfl rfl rfl (Nat.le_of_ble_eq_true rfl) trivial ?_
          refine vl_nil ?_
          refine va_done (by kernel_rfl) ?_
          refine hK9 _ ?_
          refine vc_region ?_
          refine vl_q (q_fieldAddr 0 rfl rfl rfl rfl (by decide) rfl rfl) (dk rfl) ?_
          refine vl_open (nm := 18) (i := 0) (j := 0) rfl rfl rfl rfl rfl rfl ?_
          simp only [List.length_map, List.length_take, Nat.min_eq_left hi]
          refine vl_load rfl rfl rfl rfl rfl rfl rfl (by decide) (dk rfl) ?_
          refine vl_load rfl rfl rfl rfl rfl rfl rfl (by decide) (dk rfl) ?_
          refine vl_bslice rfl rfl rfl rfl rfl rfl ⟨rfl, trivial⟩ (by decide) (by decide) (dk rfl) ?_
          refine vl_append rfl rfl rfl rfl (fun _ h => TypeDesc.noConfusion h) rfl rfl rfl (by rw [Nat.zero_add]; exact Nat.le_of_eq (by simp; omega)) (src_row rfl rfl rfl rfl) (by show (i + 1) * 80 ≤ _; omega) (by show i + 1 < _; omega) (dk rfl) ?_
          refine vl_q (q_fieldAddr 0 rfl rfl rfl rfl (by decide) rfl rfl) (dk rfl) ?_
          refine vl_store rfl rfl rfl rfl rfl rfl (Nat.le_of_ble_eq_true rfl) trivial ?_
          refine vl_nil ?_
          refine hK7 _ ?_
          refine vc_weak (Weak.node (m := 25) rfl (congrArg (Vm.Node.mk 6) (app_take (take_map_len (f := heldO) hi)))) ?_
          refine vc_weak (Weak.close1 (nm := 25) (i := i) (j := 3) (m := 20) (es := l[i].parts.map strC) rfl (app_get (take_map_len hi)) rfl rfl (by simp) (by decide)) ?_
          refine vc_weak (Weak.close1 (nm := 25) (i := i) (j := 4) (m := 22) (es := l[i].hav.map boolC) rfl (set_get (app_lt (take_map_len hi))) rfl rfl (by simp) (by decide)) ?_
          refine vc_weak (Weak.node (m := 25) (nd' := ⟨6, clo ((l.take (i + 1)).map heldO)⟩) rfl (congrArg (Vm.Node.mk 6) ((List.set_set _).trans ((app_set (take_map_len hi)).trans (clo_snoc.trans (congrArg clo (take_map_snoc (f := heldO) hil))))))) ?_
          refine vc_weak (Weak.close1 (nm := 18) (i := 0) (j := 0) (m := 25) (es := (l.take (i + 1)).map heldO) rfl rfl rfl rfl (by simp; omega) (by decide)) ?_
          refine vc_region ?_
          refine vl_q (q_add rfl rfl (IntWalk.i64_in _ (by omega))) (dk rfl) ?_
          refine vl_q (q_move rfl) (dk rfl) ?_
          refine vl_nil ?_
          refine ⟨_, _, ?_, ⟨i + 1, by omega, rfl, rfl⟩, (Weak.cut _ _ _ (Nat.le_of_ble_eq_true rfl) ⟨⟨rfl, rfl⟩, ⟨rfl, rfl⟩, ⟨rfl, rfl⟩, ⟨rfl, rfl⟩, ⟨rfl, rfl⟩, trivial⟩ ⟨⟨Nat.le_of_ble_eq_true rfl, rfl, belN_all rfl⟩, ⟨Nat.le_of_ble_eq_true rfl, rfl, belN_all rfl⟩, ⟨Nat.le_of_ble_eq_true rfl, rfl, belN_all rfl⟩, trivial⟩ rfl)⟩
          omega
        · refine vl_load rfl rfl rfl rfl rfl rfl rfl (by decide) (dk rfl) ?_
          refine vl_nil ?_
          refine va_q 7 rfl (by kernel_rfl) (by kernel_rfl) (by kernel_rfl) (q_fieldAddr 3 rfl rfl rfl rfl (by decide) rfl rfl) (dk rfl) ?_
          refine va_all [3] (by kernel_rfl) (by simp) ⟨⟨_, rfl, ?_⟩, trivial⟩
          refine vl_bslice rfl rfl rfl rfl rfl rfl trivial (by decide) (by decide) (dk rfl) ?_
          refine vl_nil ?_
          refine va_all [6] (by kernel_rfl) (by simp) ⟨⟨_, rfl, ?_⟩, trivial⟩
          refine vl_append rfl rfl rfl rfl (fun _ h => TypeDesc.noConfusion h) rfl rfl rfl (Nat.le_refl _) (src_sh rfl rfl (map_wid fun _ => rfl)) (by simp only [List.length_map]; show _ * 1 ≤ _; omega) (by simp only [List.length_map]; omega) (dk rfl) ?_
          simp only [List.drop_nil, List.take_nil, List.nil_append, List.length_map, Nat.zero_add]
          refine vl_nil ?_
          refine va_all [8] (by kernel_rfl) (by simp) ⟨⟨_, rfl, ?_⟩, trivial⟩
          refine vl_store rfl rfl rfl rfl rfl rfl (Nat.le_of_ble_eq_true rfl) trivial ?_
          refine vl_nil ?_
          refine va_q 9 rfl (by kernel_rfl) (by kernel_rfl) (by kernel_rfl) (q_fieldAddr 4 rfl rfl rfl rfl (by decide) rfl rfl) (dk rfl) ?_
          refine va_all [10] (by kernel_rfl) (by simp) ⟨⟨_, rfl, ?_⟩, trivial⟩
          refine vl_store rfl rfl rfl rfl rfl rfl (Nat.le_of_ble_eq_true rfl) trivial ?_
          refine vl_nil ?_
          refine va_done (by kernel_rfl) ?_
          refine hK9 _ ?_
          refine vc_region ?_
          refine vl_q (q_fieldAddr 0 rfl rfl rfl rfl (by decide) rfl rfl) (dk rfl) ?_
          refine vl_open (nm := 18) (i := 0) (j := 0) rfl rfl rfl rfl rfl rfl ?_
          simp only [List.length_map, List.length_take, Nat.min_eq_left hi]
          refine vl_load rfl rfl rfl rfl rfl rfl rfl (by decide) (dk rfl) ?_
          refine vl_load rfl rfl rfl rfl rfl rfl rfl (by decide) (dk rfl) ?_
          refine vl_bslice rfl rfl rfl rfl rfl rfl ⟨rfl, trivial⟩ (by decide) (by decide) (dk rfl) ?_
          refine vl_append rfl rfl rfl rfl (fun _ h => TypeDesc.noConfusion h) rfl rfl rfl (by rw [Nat.zero_add]; exact Nat.le_of_eq (by simp; omega)) (src_row rfl rfl rfl rfl) (by show (i + 1) * 80 ≤ _; omega) (by show i + 1 < _; omega) (dk rfl) ?_
          refine vl_q (q_fieldAddr 0 rfl rfl rfl rfl (by decide) rfl rfl) (dk rfl) ?_
          refine vl_store rfl rfl rfl rfl rfl rfl (Nat.le_of_ble_eq_true rfl) trivial ?_
          refine vl_nil ?_
          refine hK7 _ ?_
          refine vc_weak (Weak.node (m := 25) rfl (congrArg (Vm.Node.mk 6) (app_take (take_map_len (f := heldO) hi)))) ?_
          refine vc_weak (Weak.close1 (nm := 25) (i := i) (j := 3) (m := 20) (es := l[i].parts.map strC) rfl (app_get (take_map_len hi)) rfl rfl (by simp) (by decide)) ?_
          refine vc_weak (Weak.close1 (nm := 25) (i := i) (j := 4) (m := 22) (es := l[i].hav.map boolC) rfl (set_get (app_lt (take_map_len hi))) rfl rfl (by simp) (by decide)) ?_
          refine vc_weak (Weak.node (m := 25) (nd' := ⟨6, clo ((l.take (i + 1)).map heldO)⟩) rfl (congrArg (Vm.Node.mk 6) ((List.set_set _).trans ((app_set (take_map_len hi)).trans (clo_snoc.trans (congrArg clo (take_map_snoc (f := heldO) hil))))))) ?_
          refine vc_weak (Weak.close1 (nm := 18) (i := 0) (j := 0) (m := 25) (es := (l.take (i + 1)).map heldO) rfl rfl rfl rfl (by simp; omega) (by decide)) ?_
          refine vc_region ?_
          refine vl_q (q_add rfl rfl (IntWalk.i64_in _ (by omega))) (dk rfl) ?_
          refine vl_q (q_move rfl) (dk rfl) ?_
          refine vl_nil ?_
          refine ⟨_, _, ?_, ⟨i + 1, by omega, rfl, rfl⟩, (Weak.cut _ _ _ (Nat.le_of_ble_eq_true rfl) ⟨⟨rfl, rfl⟩, ⟨rfl, rfl⟩, ⟨rfl, rfl⟩, ⟨rfl, rfl⟩, ⟨rfl, rfl⟩, trivial⟩ ⟨⟨Nat.le_of_ble_eq_true rfl, rfl, belN_all rfl⟩, ⟨Nat.le_of_ble_eq_true rfl, rfl, belN_all rfl⟩, ⟨Nat.le_of_ble_eq_true rfl, rfl, belN_all rfl⟩, trivial⟩ rfl)⟩
          omega
      · refine vl_bslice rfl rfl rfl rfl rfl rfl trivial (by decide) (by decide) (dk rfl) ?_
        refine vl_nil ?_
        refine va_all [2, 5] (by kernel_rfl) (by simp) ⟨⟨_, rfl, ?_⟩, ⟨_, rfl, ?_⟩, trivial⟩
        · refine vl_callG [] (.v (.one (.hdr 21 0 _))) (c_impl_copyTexts l[i].parts hp) rfl rfl ⟨XOk.shc _ _, trivial⟩ trivial rfl (by decide) ⟨fix_clo _ _, trivial⟩ trivial rfl (.inr ⟨rfl, ⟨nzN_map strC_noZ, trivial⟩, trivial⟩) (dk rfl) ?_
          refine vl_nil ?_
          refine va_all [5] (by kernel_rfl) (by simp) ⟨⟨_, rfl, ?_⟩, trivial⟩
          refine vl_load rfl rfl rfl rfl rfl rfl rfl (by decide) (dk rfl) ?_
          refine vl_nil ?_
          refine va_q 7 rfl (by kernel_rfl) (by kernel_rfl) (by kernel_rfl) (q_fieldAddr 3 rfl rfl rfl rfl (by decide) rfl rfl) (dk rfl) ?_
          refine va_all [6] (by kernel_rfl) (by simp) ⟨⟨_, rfl, ?_⟩, trivial⟩
          refine vl_append rfl rfl rfl rfl (fun _ h => TypeDesc.noConfusion h) rfl rfl rfl (Nat.le_refl _) (src_sh rfl rfl (map_wid fun _ => rfl)) (by simp only [List.length_map]; show _ * 1 ≤ _; omega) (by simp only [List.length_map]; omega) (dk rfl) ?_
          simp only [List.drop_nil, List.take_nil, List.nil_append, List.length_map, Nat.zero_add]
          refine vl_nil ?_
          refine va_all [8] (by kernel_rfl) (by simp) ⟨⟨_, rfl, ?_⟩, trivial⟩
          refine vl_store rfl rfl rfl rfl rfl rfl (Nat.le_of_ble_eq_true rfl) trivial ?_
          refine vl_nil ?_
          refine va_q 9 rfl (by kernel_rfl) (by kernel_rfl) (by kernel_rfl) (q_fieldAddr 4 rfl rfl rfl rfl (by decide) rfl rfl) (dk rfl) ?_
          refine va_all [10] (by kernel_rfl) (by simp) ⟨⟨_, rfl, ?_⟩, trivial⟩
          refine vl_store rfl rfl rfl rfl rfl rfl (Nat.le_of_ble_eq_true rfl) trivial ?_
          refine vl_nil ?_
          refine va_done (by kernel_rfl) ?_
          refine hK9 _ ?_
          refine vc_region ?_
          refine vl_q (q_fieldAddr 0 rfl rfl rfl rfl (by decide) rfl rfl) (dk rfl) ?_
          refine vl_open (nm := 18) (i := 0) (j := 0) rfl rfl rfl rfl rfl rfl ?_
          simp only [List.length_map, List.length_take, Nat.min_eq_left hi]
          refine vl_load rfl rfl rfl rfl rfl rfl rfl (by decide) (dk rfl) ?_
          refine vl_load rfl rfl rfl rfl rfl rfl rfl (by decide) (dk rfl) ?_
          refine vl_bslice rfl rfl rfl rfl rfl rfl ⟨rfl, trivial⟩ (by decide) (by decide) (dk rfl) ?_
          refine vl_append rfl rfl rfl rfl (fun _ h => TypeDesc.noConfusion h) rfl rfl rfl (by rw [Nat.zero_add]; exact Nat.le_of_eq (by simp; omega)) (src_row rfl rfl rfl rfl) (by show (i + 1) * 80 ≤ _; omega) (by show i + 1 < _; omega) (dk rfl) ?_
          refine vl_q (q_fieldAddr 0 rfl rfl rfl rfl (by decide) rfl rfl) (dk rfl) ?_
          refine vl_store rfl rfl rfl rfl rfl rfl (Nat.le_of_ble_eq_true rfl) trivial ?_
          refine vl_nil ?_
          refine hK7 _ ?_
          refine vc_weak (Weak.node (m := 25) rfl (congrArg (Vm.Node.mk 6) (app_take (take_map_len (f := heldO) hi)))) ?_
          refine vc_weak (Weak.close1 (nm := 25) (i := i) (j := 3) (m := 21) (es := l[i].parts.map strC) rfl (app_get (take_map_len hi)) rfl rfl (by simp) (by decide)) ?_
          refine vc_weak (Weak.close1 (nm := 25) (i := i) (j := 4) (m := 22) (es := l[i].hav.map boolC) rfl (set_get (app_lt (take_map_len hi))) rfl rfl (by simp) (by decide)) ?_
          refine vc_weak (Weak.node (m := 25) (nd' := ⟨6, clo ((l.take (i + 1)).map heldO)⟩) rfl (congrArg (Vm.Node.mk 6) ((List.set_set _).trans ((app_set (take_map_len hi)).trans (clo_snoc.trans (congrArg clo (take_map_snoc (f := heldO) hil))))))) ?_
          refine vc_weak (Weak.close1 (nm := 18) (i := 0) (j := 0) (m := 25) (es := (l.take (i + 1)).map heldO) rfl rfl rfl rfl (by simp; omega) (by decide)) ?_
          refine vc_region ?_
          refine vl_q (q_add rfl rfl (IntWalk.i64_in _ (by omega))) (dk rfl) ?_
          refine vl_q (q_move rfl) (dk rfl) ?_
          refine vl_nil ?_
          refine ⟨_, _, ?_, ⟨i + 1, by omega, rfl, rfl⟩, (Weak.cut _ _ _ (Nat.le_of_ble_eq_true rfl) ⟨⟨rfl, rfl⟩, ⟨rfl, rfl⟩, ⟨rfl, rfl⟩, ⟨rfl, rfl⟩, ⟨rfl, rfl⟩, trivial⟩ ⟨⟨Nat.le_of_ble_eq_true rfl, rfl, belN_all rfl⟩, ⟨Nat.le_of_ble_eq_true rfl, rfl, belN_all rfl⟩, ⟨Nat.le_of_ble_eq_true rfl, rfl, belN_all rfl⟩, trivial⟩ rfl)⟩
          omega
        · refine vl_load rfl rfl rfl rfl rfl rfl rfl (by decide) (dk rfl) ?_
          refine vl_nil ?_
          refine va_all [2] (by kernel_rfl) (by simp) ⟨⟨_, rfl, ?_⟩, trivial⟩
          refine vl_callG [] (.v (.one (.hdr 21 0 _))) (c_impl_copyTexts l[i].parts hp) rfl rfl ⟨XOk.shc _ _, trivial⟩ trivial rfl (by decide) ⟨fix_clo _ _, trivial⟩ trivial rfl (.inr ⟨rfl, ⟨nzN_map strC_noZ, trivial⟩, trivial⟩) (dk rfl) ?_
          refine vl_nil ?_
          refine va_q 7 rfl (by kernel_rfl) (by kernel_rfl) (by kernel_rfl) (q_fieldAddr 3 rfl rfl rfl rfl (by decide) rfl rfl) (dk rfl) ?_
          refine va_all [6] (by kernel_rfl) (by simp) ⟨⟨_, rfl, ?_⟩, trivial⟩
          refine vl_append rfl rfl rfl rfl (fun _ h => TypeDesc.noConfusion h) rfl rfl rfl (Nat.le_refl _) (src_sh rfl rfl (map_wid fun _ => rfl)) (by simp only [List.length_map]; show _ * 1 ≤ _; omega) (by simp only [List.length_map]; omega) (dk rfl) ?_
          simp only [List.drop_nil, List.take_nil, List.nil_append, List.length_map, Nat.zero_add]
          refine vl_nil ?_
          refine va_all [8] (by kernel_rfl) (by simp) ⟨⟨_, rfl, ?_⟩, trivial⟩
          refine vl_store rfl rfl rfl rfl rfl rfl (Nat.le_of_ble_eq_true rfl) trivial ?_
          refine vl_nil ?_
          refine va_q 9 rfl (by kernel_rfl) (by kernel_rfl) (by kernel_rfl) (q_fieldAddr 4 rfl rfl rfl rfl (by decide) rfl rfl) (dk rfl) ?_
          refine va_all [10] (by kernel_rfl) (by simp) ⟨⟨_, rfl, ?_⟩, trivial⟩
          refine vl_store rfl rfl rfl rfl rfl rfl (Nat.le_of_ble_eq_true rfl) trivial ?_
          refine vl_nil ?_
          refine va_done (by kernel_rfl) ?_
          refine hK9 _ ?_
          refine vc_region ?_
          refine vl_q (q_fieldAddr 0 rfl rfl rfl rfl (by decide) rfl rfl) (dk rfl) ?_
          refine vl_open (nm := 18) (i := 0) (j := 0) rfl rfl rfl rfl rfl rfl ?_
          simp only [List.length_map, List.length_take, Nat.min_eq_left hi]
          refine vl_load rfl rfl rfl rfl rfl rfl rfl (by decide) (dk rfl) ?_
          refine vl_load rfl rfl rfl rfl rfl rfl rfl (by decide) (dk rfl) ?_
          refine vl_bslice rfl rfl rfl rfl rfl rfl ⟨rfl, trivial⟩ (by decide) (by decide) (dk rfl) ?_
          refine vl_append rfl rfl rfl rfl (fun _ h => TypeDesc.noConfusion h) rfl rfl rfl (by rw [Nat.zero_add]; exact Nat.le_of_eq (by simp; omega)) (src_row rfl rfl rfl rfl) (by show (i + 1) * 80 ≤ _; omega) (by show i + 1 < _; omega) (dk rfl) ?_
          refine vl_q (q_fieldAddr 0 rfl rfl rfl rfl (by decide) rfl rfl) (dk rfl) ?_
          refine vl_store rfl rfl rfl rfl rfl rfl (Nat.le_of_ble_eq_true rfl) trivial ?_
          refine vl_nil ?_
          refine hK7 _ ?_
          refine vc_weak (Weak.node (m := 25) rfl (congrArg (Vm.Node.mk 6) (app_take (take_map_len (f := heldO) hi)))) ?_
          refine vc_weak (Weak.close1 (nm := 25) (i := i) (j := 3) (m := 21) (es := l[i].parts.map strC) rfl (app_get (take_map_len hi)) rfl rfl (by simp) (by decide)) ?_
          refine vc_weak (Weak.close1 (nm := 25) (i := i) (j := 4) (m := 22) (es := l[i].hav.map boolC) rfl (set_get (app_lt (take_map_len hi))) rfl rfl (by simp) (by decide)) ?_
          refine vc_weak (Weak.node (m := 25) (nd' := ⟨6, clo ((l.take (i + 1)).map heldO)⟩) rfl (congrArg (Vm.Node.mk 6) ((List.set_set _).trans ((app_set (take_map_len hi)).trans (clo_snoc.trans (congrArg clo (take_map_snoc (f := heldO) hil))))))) ?_
          refine vc_weak (Weak.close1 (nm := 18) (i := 0) (j := 0) (m := 25) (es := (l.take (i + 1)).map heldO) rfl rfl rfl rfl (by simp; omega) (by decide)) ?_
          refine vc_region ?_
          refine vl_q (q_add rfl rfl (IntWalk.i64_in _ (by omega))) (dk rfl) ?_
          refine vl_q (q_move rfl) (dk rfl) ?_
          refine vl_nil ?_
          refine ⟨_, _, ?_, ⟨i + 1, by omega, rfl, rfl⟩, (Weak.cut _ _ _ (Nat.le_of_ble_eq_true rfl) ⟨⟨rfl, rfl⟩, ⟨rfl, rfl⟩, ⟨rfl, rfl⟩, ⟨rfl, rfl⟩, ⟨rfl, rfl⟩, trivial⟩ ⟨⟨Nat.le_of_ble_eq_true rfl, rfl, belN_all rfl⟩, ⟨Nat.le_of_ble_eq_true rfl, rfl, belN_all rfl⟩, ⟨Nat.le_of_ble_eq_true rfl, rfl, belN_all rfl⟩, trivial⟩ rfl)⟩
          omega
      · refine vl_load rfl rfl rfl rfl rfl rfl rfl (by decide) (dk rfl) ?_
        refine vl_nil ?_
        refine va_all [2, 3] (by kernel_rfl) (by simp) ⟨⟨_, rfl, ?_⟩, ⟨_, rfl, ?_⟩, trivial⟩
        · refine vl_callG [] (.v (.one (.hdr 20 0 _))) (c_impl_copyTexts l[i].parts hp) rfl rfl ⟨XOk.shc _ _, trivial⟩ trivial rfl (by decide) ⟨fix_clo _ _, trivial⟩ trivial rfl (.inr ⟨rfl, ⟨nzN_map strC_noZ, trivial⟩, trivial⟩) (dk rfl) ?_
          refine vl_nil ?_
          refine va_q 7 rfl (by kernel_rfl) (by kernel_rfl) (by kernel_rfl) (q_fieldAddr 3 rfl rfl rfl rfl (by decide) rfl rfl) (dk rfl) ?_
          refine va_all [3] (by kernel_rfl) (by simp) ⟨⟨_, rfl, ?_⟩, trivial⟩
          refine vl_bslice rfl rfl rfl rfl rfl rfl trivial (by decide) (by decide) (dk rfl) ?_
          refine vl_nil ?_
          refine va_all [6] (by kernel_rfl) (by simp) ⟨⟨_, rfl, ?_⟩, trivial⟩
          refine vl_append rfl rfl rfl rfl (fun _ h => TypeDesc.noConfusion h) rfl rfl rfl (Nat.le_refl _) (src_sh rfl rfl (map_wid fun _ => rfl)) (by simp only [List.length_map]; show _ * 1 ≤ _; omega) (by simp only [List.length_map]; omega) (dk rfl) ?_
          simp only [List.drop_nil, List.take_nil, List.nil_append, List.length_map, Nat.zero_add]
          refine vl_nil ?_
          refine va_all [8] (by kernel_rfl) (by simp) ⟨⟨_, rfl, ?_⟩, trivial⟩
          refine vl_store rfl rfl rfl rfl rfl rfl (Nat.le_of_ble_eq_true rfl) trivial ?_
          refine vl_nil ?_
          refine va_q 9 rfl (by kernel_rfl) (by kernel_rfl) (by kernel_rfl) (q_fieldAddr 4 rfl rfl rfl rfl (by decide) rfl rfl) (dk rfl) ?_
          refine va_all [10] (by kernel_rfl) (by simp) ⟨⟨_, rfl, ?_⟩, trivial⟩
          refine vl_store rfl rfl rfl rfl rfl rfl (Nat.le_of_ble_eq_true rfl) trivial ?_
          refine vl_nil ?_
          refine va_done (by kernel_rfl) ?_
          refine hK9 _ ?_
          refine vc_region ?_
          refine vl_q (q_fieldAddr 0 rfl rfl rfl rfl (by decide) rfl rfl) (dk rfl) ?_
          refine vl_open (nm := 18) (i := 0) (j := 0) rfl rfl rfl rfl rfl rfl ?_
          simp only [List.length_map, List.length_take, Nat.min_eq_left hi]
          refine vl_load rfl rfl rfl rfl rfl rfl rfl (by decide) (dk rfl) ?_
          refine vl_load rfl rfl rfl rfl rfl rfl rfl (by decide) (dk rfl) ?_
          refine vl_bslice rfl rfl rfl rfl rfl rfl ⟨rfl, trivial⟩ (by decide) (by decide) (dk rfl) ?_
          refine vl_append rfl rfl rfl rfl (fun _ h => TypeDesc.noConfusion h) rfl rfl rfl (by rw [Nat.zero_add]; exact Nat.le_of_eq (by simp; omega)) (src_row rfl rfl rfl rfl) (by show (i + 1) * 80 ≤ _; omega) (by show i + 1 < _; omega) (dk rfl) ?_
          refine vl_q (q_fieldAddr 0 rfl rfl rfl rfl (by decide) rfl rfl) (dk rfl) ?_
          refine vl_store rfl rfl rfl rfl rfl rfl (Nat.le_of_ble_eq_true rfl) trivial ?_
          refine vl_nil ?_
          refine hK7 _ ?_
          refine vc_weak (Weak.node (m := 25) rfl (congrArg (Vm.Node.mk 6) (app_take (take_map_len (f := heldO) hi)))) ?_
          refine vc_weak (Weak.close1 (nm := 25) (i := i) (j := 3) (m := 20) (es := l[i].parts.map strC) rfl (app_get (take_map_len hi)) rfl rfl (by simp) (by decide)) ?_
          refine vc_weak (Weak.close1 (nm := 25) (i := i) (j := 4) (m := 22) (es := l[i].hav.map boolC) rfl (set_get (app_lt (take_map_len hi))) rfl rfl (by simp) (by decide)) ?_
          refine vc_weak (Weak.node (m := 25) (nd' := ⟨6, clo ((l.take (i + 1)).map heldO)⟩) rfl (congrArg (Vm.Node.mk 6) ((List.set_set _).trans ((app_set (take_map_len hi)).trans (clo_snoc.trans (congrArg clo (take_map_snoc (f := heldO) hil))))))) ?_
          refine vc_weak (Weak.close1 (nm := 18) (i := 0) (j := 0) (m := 25) (es := (l.take (i + 1)).map heldO) rfl rfl rfl rfl (by simp; omega) (by decide)) ?_
          refine vc_region ?_
          refine vl_q (q_add rfl rfl (IntWalk.i64_in _ (by omega))) (dk rfl) ?_
          refine vl_q (q_move rfl) (dk rfl) ?_
          refine vl_nil ?_
          refine ⟨_, _, ?_, ⟨i + 1, by omega, rfl, rfl⟩, (Weak.cut _ _ _ (Nat.le_of_ble_eq_true rfl) ⟨⟨rfl, rfl⟩, ⟨rfl, rfl⟩, ⟨rfl, rfl⟩, ⟨rfl, rfl⟩, ⟨rfl, rfl⟩, trivial⟩ ⟨⟨Nat.le_of_ble_eq_true rfl, rfl, belN_all rfl⟩, ⟨Nat.le_of_ble_eq_true rfl, rfl, belN_all rfl⟩, ⟨Nat.le_of_ble_eq_true rfl, rfl, belN_all rfl⟩, trivial⟩ rfl)⟩
          omega
        · refine vl_bslice rfl rfl rfl rfl rfl rfl trivial (by decide) (by decide) (dk rfl) ?_
          refine vl_nil ?_
          refine va_all [2] (by kernel_rfl) (by simp) ⟨⟨_, rfl, ?_⟩, trivial⟩
          refine vl_callG [] (.v (.one (.hdr 21 0 _))) (c_impl_copyTexts l[i].parts hp) rfl rfl ⟨XOk.shc _ _, trivial⟩ trivial rfl (by decide) ⟨fix_clo _ _, trivial⟩ trivial rfl (.inr ⟨rfl, ⟨nzN_map strC_noZ, trivial⟩, trivial⟩) (dk rfl) ?_
          refine vl_nil ?_
          refine va_q 7 rfl (by kernel_rfl) (by kernel_rfl) (by kernel_rfl) (q_fieldAddr 3 rfl rfl rfl rfl (by decide) rfl rfl) (dk rfl) ?_
          refine va_all [6] (by kernel_rfl) (by simp) ⟨⟨_, rfl, ?_⟩, trivial⟩
          refine vl_append rfl rfl rfl rfl (fun _ h => TypeDesc.noConfusion h) rfl rfl rfl (Nat.le_refl _) (src_sh rfl rfl (map_wid fun _ => rfl)) (by simp only [List.length_map]; show _ * 1 ≤ _; omega) (by simp only [List.length_map]; omega) (dk rfl) ?_
          simp only [List.drop_nil, List.take_nil, List.nil_append, List.length_map, Nat.zero_add]
          refine vl_nil ?_
          refine va_all [8] (by kernel_rfl) (by simp) ⟨⟨_, rfl, ?_⟩, trivial⟩
          refine vl_store rfl rfl rfl rfl rfl rfl (Nat.le_of_ble_eq_true rfl) trivial ?_
          refine vl_nil ?_
          refine va_q 9 rfl (by kernel_rfl) (by kernel_rfl) (by kernel_rfl) (q_fieldAddr 4 rfl rfl rfl rfl (by decide) rfl rfl) (dk rfl) ?_
          refine va_all [10] (by kernel_rfl) (by simp) ⟨⟨_, rfl, ?_⟩, trivial⟩
          refine vl_store rfl rfl rfl rfl rfl rfl (Nat.le_of_ble_eq_true rfl) trivial ?_
          refine vl_nil ?_
          refine va_done (by kernel_rfl) ?_
          refine hK9 _ ?_
          refine vc_region ?_
          refine vl_q (q_fieldAddr 0 rfl rfl rfl rfl (by decide) rfl rfl) (dk rfl) ?_
          refine vl_open (nm := 18) (i := 0) (j := 0) rfl rfl rfl rfl rfl rfl ?_
          simp only [List.length_map, List.length_take, Nat.min_eq_left hi]
          refine vl_load rfl rfl rfl rfl rfl rfl rfl (by decide) (dk rfl) ?_
          refine vl_load rfl rfl rfl rfl rfl rfl rfl (by decide) (dk rfl) ?_
          refine vl_bslice rfl rfl rfl rfl rfl rfl ⟨rfl, trivial⟩ (by decide) (by decide) (dk rfl) ?_
          refine vl_append rfl rfl rfl rfl (fun _ h => TypeDesc.noConfusion h) rfl rfl rfl (by rw [Nat.zero_add]; exact Nat.le_of_eq (by simp; omega)) (src_row rfl rfl rfl rfl) (by show (i + 1) * 80 ≤ _; omega) (by show i + 1 < _; omega) (dk rfl) ?_
          refine vl_q (q_fieldAddr 0 rfl rfl rfl rfl (by decide) rfl rfl) (dk rfl) ?_
          refine vl_store rfl rfl rfl rfl rfl rfl (Nat.le_of_ble_eq_true rfl) trivial ?_
          refine vl_nil ?_
          refine hK7 _ ?_
          refine vc_weak (Weak.node (m := 25) rfl (congrArg (Vm.Node.mk 6) (app_take (take_map_len (f := heldO) hi)))) ?_
          refine vc_weak (Weak.close1 (nm := 25) (i := i) (j := 3) (m := 21) (es := l[i].parts.map strC) rfl (app_get (take_map_len hi)) rfl rfl (by simp) (by decide)) ?_
          refine vc_weak (Weak.close1 (nm := 25) (i := i) (j := 4) (m := 22) (es := l[i].hav.map boolC) rfl (set_get (app_lt (take_map_len hi))) rfl rfl (by simp) (by decide)) ?_
          refine vc_weak (Weak.node (m := 25) (nd' := ⟨6, clo ((l.take (i + 1)).map heldO)⟩) rfl (congrArg (Vm.Node.mk 6) ((List.set_set _).trans ((app_set (take_map_len hi)).trans (clo_snoc.trans (congrArg clo (take_map_snoc (f := heldO) hil))))))) ?_
          refine vc_weak (Weak.close1 (nm := 18) (i := 0) (j := 0) (m := 25) (es := (l.take (i + 1)).map heldO) rfl rfl rfl rfl (by simp; omega) (by decide)) ?_
          refine vc_region ?_
          refine vl_q (q_add rfl rfl (IntWalk.i64_in _ (by omega))) (dk rfl) ?_
          refine vl_q (q_move rfl) (dk rfl) ?_
          refine vl_nil ?_
          refine ⟨_, _, ?_, ⟨i + 1, by omega, rfl, rfl⟩, (Weak.cut _ _ _ (Nat.le_of_ble_eq_true rfl) ⟨⟨rfl, rfl⟩, ⟨rfl, rfl⟩, ⟨rfl, rfl⟩, ⟨rfl, rfl⟩, ⟨rfl, rfl⟩, trivial⟩ ⟨⟨Nat.le_of_ble_eq_true rfl, rfl, belN_all rfl⟩, ⟨Nat.le_of_ble_eq_true rfl, rfl, belN_all rfl⟩, ⟨Nat.le_of_ble_eq_true rfl, rfl, belN_all rfl⟩, trivial⟩ rfl)⟩
          omega
    · refine vl_bslice rfl rfl rfl rfl rfl rfl trivial (by decide) (by decide) (dk rfl) ?_
      refine vl_nil ?_
      refine va_all [1, 5] (by kernel_rfl) (by simp) ⟨⟨_, rfl, ?_⟩, ⟨_, rfl, ?_⟩, trivial⟩
      · refine vl_load rfl rfl rfl rfl rfl rfl rfl (by decide) (dk rfl) ?_
        refine vl_nil ?_
        refine va_all [2, 5] (by kernel_rfl) (by simp) ⟨⟨_, rfl, ?_⟩, ⟨_, rfl, ?_⟩, trivial⟩
        · refine vl_callG [] (.v (.one (.hdr 21 0 _))) (c_impl_copyTexts l[i].parts hp) rfl rfl ⟨XOk.shc _ _, trivial⟩ trivial rfl (by decide) ⟨fix_clo _ _, trivial⟩ trivial rfl (.inr ⟨rfl, ⟨nzN_map strC_noZ, trivial⟩, trivial⟩) (dk rfl) ?_
          refine vl_nil ?_
          refine va_all [5] (by kernel_rfl) (by simp) ⟨⟨_, rfl, ?_⟩, trivial⟩
          refine vl_load rfl rfl rfl rfl rfl rfl rfl (by decide) (dk rfl) ?_
          refine vl_nil ?_
          refine va_q 7 rfl (by kernel_rfl) (by kernel_rfl) (by kernel_rfl) (q_fieldAddr 3 rfl rfl rfl rfl (by decide) rfl rfl) (dk rfl) ?_
          refine va_all [6] (by kernel_rfl) (by simp) ⟨⟨_, rfl, ?_⟩, trivial⟩
          refine vl_append rfl rfl rfl rfl (fun _ h => TypeDesc.noConfusion h) rfl rfl rfl (Nat.le_refl _) (src_sh rfl rfl (map_wid fun _ => rfl)) (by simp only [List.length_map]; show _ * 1 ≤ _; omega) (by simp only [List.length_map]; omega) (dk rfl) ?_
          simp only [List.drop_nil, List.take_nil, List.nil_append, List.length_map, Nat.zero_add]
          refine vl_nil ?_
          refine va_all [8] (by kernel_rfl) (by simp) ⟨⟨_, rfl, ?_⟩, trivial⟩
          refine vl_store rfl rfl rfl rfl rfl rfl (Nat.le_of_ble_eq_true rfl) trivial ?_
          refine vl_nil ?_
          refine va_q 9 rfl (by kernel_rfl) (by kernel_rfl) (by kernel_rfl) (q_fieldAddr 4 rfl rfl rfl rfl (by decide) rfl rfl) (dk rfl) ?_
          refine va_all [10] (by kernel_rfl) (by simp) ⟨⟨_, rfl, ?_⟩, trivial⟩
          refine vl_store rfl rfl rfl rfl rfl rfl (Nat.le_of_ble_eq_true rfl) trivial ?_
          refine vl_nil ?_
          refine va_done (by kernel_rfl) ?_
          refine hK9 _ ?_
          refine vc_region ?_
          refine vl_q (q_fieldAddr 0 rfl rfl rfl rfl (by decide) rfl rfl) (dk rfl) ?_
          refine vl_open (nm := 18) (i := 0) (j := 0) rfl rfl rfl rfl rfl rfl ?_
          simp only [List.length_map, List.length_take, Nat.min_eq_left hi]
          refine vl_load rfl rfl rfl rfl rfl rfl rfl (by decide) (dk rfl) ?_
          refine vl_load rfl rfl rfl rfl rfl rfl rfl (by decide) (dk rfl) ?_
          refine vl_bslice rfl rfl rfl rfl rfl rfl ⟨rfl, trivial⟩ (by decide) (by decide) (dk rfl) ?_
          refine vl_append rfl rfl rfl rfl (fun _ h => TypeDesc.noConfusion h) rfl rfl rfl (by rw [Nat.zero_add]; exact Nat.le_of_eq (by simp; omega)) (src_row rfl rfl rfl rfl) (by show (i + 1) * 80 ≤ _; omega) (by show i + 1 < _; omega) (dk rfl) ?_
          refine vl_q (q_fieldAddr 0 rfl rfl rfl rfl (by decide) rfl rfl) (dk rfl) ?_
          refine vl_store rfl rfl rfl rfl rfl rfl (Nat.le_of_ble_eq_true rfl) trivial ?_
          refine vl_nil ?_
          refine hK7 _ ?_
          refine vc_weak (Weak.node (m := 25) rfl (congrArg (Vm.Node.mk 6) (app_take (take_map_len (f := heldO) hi)))) ?_
          refine vc_weak (Weak.close1 (nm := 25) (i := i) (j := 3) (m := 21) (es := l[i].parts.map strC) rfl (app_get (take_map_len hi)) rfl rfl (by simp) (by decide)) ?_
          refine vc_weak (Weak.close1 (nm := 25) (i := i) (j := 4) (m := 22) (es := l[i].hav.map boolC) rfl (set_get (app_lt (take_map_len hi))) rfl rfl (by simp) (by decide)) ?_
          refine vc_weak (Weak.node (m := 25) (nd' := ⟨6, clo ((l.take (i + 1)).map heldO)⟩) rfl (congrArg (Vm.Node.mk 6) ((List.set_set _).trans ((app_set (take_map_len hi)).trans (clo_snoc.trans (congrArg clo (take_map_snoc (f := heldO) hil))))))) ?_
          refine vc_weak (Weak.close1 (nm := 18) (i := 0) (j := 0) (m := 25) (es := (l.take (i + 1)).map heldO) rfl rfl rfl rfl (by simp; omega) (by decide)) ?_
          refine vc_region ?_
          refine vl_q (q_add rfl rfl (IntWalk.i64_in _ (by omega))) (dk rfl) ?_
          refine vl_q (q_move rfl) (dk rfl) ?_
          refine vl_nil ?_
          refine ⟨_, _, ?_, ⟨i + 1, by omega, rfl, rfl⟩, (Weak.cut _ _ _ (Nat.le_of_ble_eq_true rfl) ⟨⟨rfl, rfl⟩, ⟨rfl, rfl⟩, ⟨rfl, rfl⟩, ⟨rfl, rfl⟩, ⟨rfl, rfl⟩, trivial⟩ ⟨⟨Nat.le_of_ble_eq_true rfl, rfl, belN_all rfl⟩, ⟨Nat.le_of_ble_eq_true rfl, rfl, belN_all rfl⟩, ⟨Nat.le_of_ble_eq_true rfl, rfl, belN_all rfl⟩, trivial⟩ rfl)⟩
          omega
        · refine vl_load rfl rfl rfl rfl rfl rfl rfl (by decide) (dk rfl) ?_
          refine vl_nil ?_
          refine va_all [2] (by kernel_rfl) (by simp) ⟨⟨_, rfl, ?_⟩, trivial⟩
          refine vl_callG [] (.v (.one (.hdr 21 0 _))) (c_impl_copyTexts l[i].parts hp) rfl rfl ⟨XOk.shc _ _, trivial⟩ trivial rfl (by decide) ⟨fix_clo _ _, trivial⟩ trivial rfl (.inr ⟨rfl, ⟨nzN_map strC_noZ, trivial⟩, trivial⟩) (dk rfl) ?_
          refine vl_nil ?_
          refine va_q 7 rfl (by kernel_rfl) (by kernel_rfl) (by kernel_rfl) (q_fieldAddr 3 rfl rfl rfl rfl (by decide) rfl rfl) (dk rfl) ?_
          refine va_all [6] (by kernel_rfl) (by simp) ⟨⟨_, rfl, ?_⟩, trivial⟩
          refine vl_append rfl rfl rfl rfl (fun _ h => TypeDesc.noConfusion h) rfl rfl rfl (Nat.le_refl _) (src_sh rfl rfl (map_wid fun _ => rfl)) (by simp only [List.length_map]; show _ * 1 ≤ _; omega) (by simp only [List.length_map]; omega) (dk rfl) ?_
          simp only [List.drop_nil, List.take_nil, List.nil_append, List.length_map, Nat.zero_add]
          refine vl_nil ?_
          refine va_all [8] (by kernel_rfl) (by simp) ⟨⟨_, rfl, ?_⟩, trivial⟩
          refine vl_store rfl rfl rfl rfl rfl rfl (Nat.le_of_ble_eq_true rfl) trivial ?_
          refine vl_nil ?_
          refine va_q 9 rfl (by kernel_rfl) (by kernel_rfl) (by kernel_rfl) (q_fieldAddr 4 rfl rfl rfl rfl (by decide) rfl rfl) (dk rfl) ?_
          refine va_all [10] (by kernel_rfl) (by simp) ⟨⟨_, rfl, ?_⟩, trivial⟩
          refine vl_store rfl rfl rfl rfl rfl rfl (Nat.le_of_ble_eq_true rfl) trivial ?_
          refine vl_nil ?_
          refine va_done (by kernel_rfl) ?_
          refine hK9 _ ?_
          refine vc_region ?_
          refine vl_q (q_fieldAddr 0 rfl rfl rfl rfl (by decide) rfl rfl) (dk rfl) ?_
          refine vl_open (nm := 18) (i := 0) (j := 0) rfl rfl rfl rfl rfl rfl ?_
          simp only [List.length_map, List.length_take, Nat.min_eq_left hi]
          refine vl_load rfl rfl rfl rfl rfl rfl rfl (by decide) (dk rfl) ?_
          refine vl_load rfl rfl rfl rfl rfl rfl rfl (by decide) (dk rfl) ?_
          refine vl_bslice rfl rfl rfl rfl rfl rfl ⟨rfl, trivial⟩ (by decide) (by decide) (dk rfl) ?_
          refine vl_append rfl rfl rfl rfl (fun _ h => TypeDesc.noConfusion h) rfl rfl rfl (by rw [Nat.zero_add]; exact Nat.le_of_eq (by simp; omega)) (src_row rfl rfl rfl rfl) (by show (i + 1) * 80 ≤ _; omega) (by show i + 1 < _; omega) (dk rfl) ?_
          refine vl_q (q_fieldAddr 0 rfl rfl rfl rfl (by decide) rfl rfl) (dk rfl) ?_
          refine vl_store rfl rfl rfl rfl rfl rfl (Nat.le_of_ble_eq_true rfl) trivial ?_
          refine vl_nil ?_
          refine hK7 _ ?_
          refine vc_weak (Weak.node (m := 25) rfl (congrArg (Vm.Node.mk 6) (app_take (take_map_len (f := heldO) hi)))) ?_
          refine vc_weak (Weak.close1 (nm := 25) (i := i) (j := 3) (m := 21) (es := l[i].parts.map strC) rfl (app_get (take_map_len hi)) rfl rfl (by simp) (by decide)) ?_
          refine vc_weak (Weak.close1 (nm := 25) (i := i) (j := 4) (m := 22) (es := l[i].hav.map boolC) rfl (set_get (app_lt (take_map_len hi))) rfl rfl (by simp) (by decide)) ?_
          refine vc_weak (Weak.node (m := 25) (nd' := ⟨6, clo ((l.take (i + 1)).map heldO)⟩) rfl (congrArg (Vm.Node.mk 6) ((List.set_set _).trans ((app_set (take_map_len hi)).trans (clo_snoc.trans (congrArg clo (take_map_snoc (f := heldO) hil))))))) ?_
          refine vc_weak (Weak.close1 (nm := 18) (i := 0) (j := 0) (m := 25) (es := (l.take (i + 1)).map heldO) rfl rfl rfl rfl (by simp; omega) (by decide)) ?_
          refine vc_region ?_
          refine vl_q (q_add rfl rfl (IntWalk.i64_in _ (by omega))) (dk rfl) ?_
          refine vl_q (q_move rfl) (dk rfl) ?_
          refine vl_nil ?_
          refine ⟨_, _, ?_, ⟨i + 1, by omega, rfl, rfl⟩, (Weak.cut _ _ _ (Nat.le_of_ble_eq_true rfl) ⟨⟨rfl, rfl⟩, ⟨rfl, rfl⟩, ⟨rfl, rfl⟩, ⟨rfl, rfl⟩, ⟨rfl, rfl⟩, trivial⟩ ⟨⟨Nat.le_of_ble_eq_true rfl, rfl, belN_all rfl⟩, ⟨Nat.le_of_ble_eq_true rfl, rfl, belN_all rfl⟩, ⟨Nat.le_of_ble_eq_true rfl, rfl, belN_all rfl⟩, trivial⟩ rfl)⟩
          omega
      · refine vl_load rfl rfl rfl rfl rfl rfl rfl (by decide) (dk rfl) ?_
        refine vl_nil ?_
        refine va_all [1] (by kernel_rfl) (by simp) ⟨⟨_, rfl, ?_⟩, trivial⟩
        refine vl_load rfl rfl rfl rfl rfl rfl rfl (by decide) (dk rfl) ?_
        refine vl_nil ?_
        refine va_all [2] (by kernel_rfl) (by simp) ⟨⟨_, rfl, ?_⟩, trivial⟩
        refine vl_callG [] (.v (.one (.hdr 21 0 _))) (c_impl_copyTexts l[i].parts hp) rfl rfl ⟨XOk.shc _ _, trivial⟩ trivial rfl (by decide) ⟨fix_clo _ _, trivial⟩ trivial rfl (.inr ⟨rfl, ⟨nzN_map strC_noZ, trivial⟩, trivial⟩) (dk rfl) ?_
        refine vl_nil ?_
        refine va_q 7 rfl (by kernel_rfl) (by kernel_rfl) (by kernel_rfl) (q_fieldAddr 3 rfl rfl rfl rfl (by decide) rfl rfl) (dk rfl) ?_
        refine va_all [6] (by kernel_rfl) (by simp) ⟨⟨_, rfl, ?_⟩, trivial⟩
        refine vl_append rfl rfl rfl rfl (fun _ h => TypeDesc.noConfusion h) rfl rfl rfl (Nat.le_refl _) (src_sh rfl rfl (map_wid fun _ => rfl)) (by simp only [List.length_map]; show _ * 1 ≤ _; omega) (by simp only [List.length_map]; omega) (dk rfl) ?_
        simp only [List.drop_nil, List.take_nil, List.nil_append, List.length_map, Nat.zero_add]
        refine vl_nil ?_
        refine va_all [8] (by kernel_rfl) (by simp) ⟨⟨_, rfl, ?_⟩, trivial⟩
        refine vl_store rfl rfl rfl rfl rfl rfl (Nat.le_of_ble_eq_true rfl) trivial ?_
        refine vl_nil ?_
        refine va_q 9 rfl (by kernel_rfl) (by kernel_rfl) (by kernel_rfl) (q_fieldAddr 4 rfl rfl rfl rfl (by decide) rfl rfl) (dk rfl) ?_
        refine va_all [10] (by kernel_rfl) (by simp) ⟨⟨_, rfl, ?_⟩, trivial⟩
        refine vl_store rfl rfl rfl rfl rfl rfl (Nat.le_of_ble_eq_true rfl) trivial ?_
        refine vl_nil ?_
        refine va_done (by kernel_rfl) ?_
        refine hK9 _ ?_
        refine vc_region ?_
        refine vl_q (q_fieldAddr 0 rfl rfl rfl rfl (by decide) rfl rfl) (dk rfl) ?_
        refine vl_open (nm := 18) (i := 0) (j := 0) rfl rfl rfl rfl rfl rfl ?_
        simp only [List.length_map, List.length_take, Nat.min_eq_left hi]
        refine vl_load rfl rfl rfl rfl rfl rfl rfl (by decide) (dk rfl) ?_
        refine vl_load rfl rfl rfl rfl rfl rfl rfl (by decide) (dk rfl) ?_
        refine vl_bslice rfl rfl rfl rfl rfl rfl ⟨rfl, trivial⟩ (by decide) (by decide) (dk rfl) ?_
        refine vl_append rfl rfl rfl rfl (fun _ h => TypeDesc.noConfusion h) rfl rfl rfl (by rw [Nat.zero_add]; exact Nat.le_of_eq (by simp; omega)) (src_row rfl rfl rfl rfl) (by show (i + 1) * 80 ≤ _; omega) (by show i + 1 < _; omega) (dk rfl) ?_
        refine vl_q (q_fieldAddr 0 rfl rfl rfl rfl (by decide) rfl rfl) (dk rfl) ?_
        refine vl_store rfl rfl rfl rfl rfl rfl (Nat.le_of_ble_eq_true rfl) trivial ?_
        refine vl_nil ?_
        refine hK7 _ ?_
        refine vc_weak (Weak.node (m := 25) rfl (congrArg (Vm.Node.mk 6) (app_take (take_map_len (f := heldO) hi)))) ?_
        refine vc_weak (Weak.close1 (nm := 25) (i := i) (j := 3) (m := 21) (es := l[i].parts.map strC) rfl (app_get (take_map_len hi)) rfl rfl (by simp) (by decide)) ?_
        refine vc_weak (Weak.close1 (nm := 25) (i := i) (j := 4) (m := 22) (es := l[i].hav.map boolC) rfl (set_get (app_lt (take_map_len hi))) rfl rfl (by simp) (by decide)) ?_
        refine vc_weak (Weak.node (m := 25) (nd' := ⟨6, clo ((l.take (i + 1)).map heldO)⟩) rfl (congrArg (Vm.Node.mk 6) ((List.set_set _).trans ((app_set (take_map_len hi)).trans (clo_snoc.trans (congrArg clo (take_map_snoc (f := heldO) hil))))))) ?_
        refine vc_weak (Weak.close1 (nm := 18) (i := 0) (j := 0) (m := 25) (es := (l.take (i + 1)).map heldO) rfl rfl rfl rfl (by simp; omega) (by decide)) ?_
        refine vc_region ?_
        refine vl_q (q_add rfl rfl (IntWalk.i64_in _ (by omega))) (dk rfl) ?_
        refine vl_q (q_move rfl) (dk rfl) ?_
        refine vl_nil ?_
        refine ⟨_, _, ?_, ⟨i + 1, by omega, rfl, rfl⟩, (Weak.cut _ _ _ (Nat.le_of_ble_eq_true rfl) ⟨⟨rfl, rfl⟩, ⟨rfl, rfl⟩, ⟨rfl, rfl⟩, ⟨rfl, rfl⟩, ⟨rfl, rfl⟩, trivial⟩ ⟨⟨Nat.le_of_ble_eq_true rfl, rfl, belN_all rfl⟩, ⟨Nat.le_of_ble_eq_true rfl, rfl, belN_all rfl⟩, ⟨Nat.le_of_ble_eq_true rfl, rfl, belN_all rfl⟩, trivial⟩ rfl)⟩
        omega
    · refine vl_load rfl rfl rfl rfl rfl rfl rfl (by decide) (dk rfl) ?_
      refine vl_nil ?_
      refine va_all [1, 3] (by kernel_rfl) (by simp) ⟨⟨_, rfl, ?_⟩, ⟨_, rfl, ?_⟩, trivial⟩
      · refine vl_load rfl rfl rfl rfl rfl rfl rfl (by decide) (dk rfl) ?_
        refine vl_nil ?_
        refine va_all [2, 3] (by kernel_rfl) (by simp) ⟨⟨_, rfl, ?_⟩, ⟨_, rfl, ?_⟩, trivial⟩
        · refine vl_callG [] (.v (.one (.hdr 20 0 _))) (c_impl_copyTexts l[i].parts hp) rfl rfl ⟨XOk.shc _ _, trivial⟩ trivial rfl (by decide) ⟨fix_clo _ _, trivial⟩ trivial rfl (.inr ⟨rfl, ⟨nzN_map strC_noZ, trivial⟩, trivial⟩) (dk rfl) ?_
          refine vl_nil ?_
          refine va_q 7 rfl (by kernel_rfl) (by kernel_rfl) (by kernel_rfl) (q_fieldAddr 3 rfl rfl rfl rfl (by decide) rfl rfl) (dk rfl) ?_
          refine va_all [3] (by kernel_rfl) (by simp) ⟨⟨_, rfl, ?_⟩, trivial⟩
          refine vl_bslice rfl rfl rfl rfl rfl rfl trivial (by decide) (by decide) (dk rfl) ?_
          refine vl_nil ?_
          refine va_all [6] (by kernel_rfl) (by simp) ⟨⟨_, rfl, ?_⟩, trivial⟩
          refine vl_append rfl rfl rfl rfl (fun _ h => TypeDesc.noConfusion h) rfl rfl rfl (Nat.le_refl _) (src_sh rfl rfl (map_wid fun _ => rfl)) (by simp only [List.length_map]; show _ * 1 ≤ _; omega) (by simp only [List.length_map]; omega) (dk rfl) ?_
          simp only [List.drop_nil, List.take_nil, List.nil_append, List.length_map, Nat.zero_add]
          refine vl_nil ?_
          refine va_all [8] (by kernel_rfl) (by simp) ⟨⟨_, rfl, ?_⟩, trivial⟩
          refine vl_store rfl rfl rfl rfl rfl rfl (Nat.le_of_ble_eq_true rfl) trivial ?_
          refine vl_nil ?_
          refine va_q 9 rfl (by kernel_rfl) (by kernel_rfl) (by kernel_rfl) (q_fieldAddr 4 rfl rfl rfl rfl (by decide) rfl rfl) (dk rfl) ?_
          refine va_all [10] (by kernel_rfl) (by simp) ⟨⟨_, rfl, ?_⟩, trivial⟩
          refine vl_store rfl rfl rfl rfl rfl rfl (Nat.le_of_ble_eq_true rfl) trivial ?_
          refine vl_nil ?_
          refine va_done (by kernel_rfl) ?_
          refine hK9 _ ?_
          refine vc_region ?_
          refine vl_q (q_fieldAddr 0 rfl rfl rfl rfl (by decide) rfl rfl) (dk rfl) ?_
          refine vl_open (nm := 18) (i := 0) (j := 0) rfl rfl rfl rfl rfl rfl ?_
          simp only [List.length_map, List.length_take, Nat.min_eq_left hi]
          refine vl_load rfl rfl rfl rfl rfl rfl rfl (by decide) (dk rfl) ?_
          refine vl_load rfl rfl rfl rfl rfl rfl rfl (by decide) (dk rfl) ?_
          refine vl_bslice rfl rfl rfl rfl rfl rfl ⟨rfl, trivial⟩ (by decide) (by decide) (dk rfl) ?_
          refine vl_append rfl rfl rfl rfl (fun _ h => TypeDesc.noConfusion h) rfl rfl rfl (by rw [Nat.zero_add]; exact Nat.le_of_eq (by simp; omega)) (src_row rfl rfl rfl rfl) (by show (i + 1) * 80 ≤ _; omega) (by show i + 1 < _; omega) (dk rfl) ?_
          refine vl_q (q_fieldAddr 0 rfl rfl rfl rfl (by decide) rfl rfl) (dk rfl) ?_
          refine vl_store rfl rfl rfl rfl rfl rfl (Nat.le_of_ble_eq_true rfl) trivial ?_
          refine vl_nil ?_
          refine hK7 _ ?_
          refine vc_weak (Weak.node (m := 25) rfl (congrArg (Vm.Node.mk 6) (app_take (take_map_len (f := heldO) hi)))) ?_
          refine vc_weak (Weak.close1 (nm := 25) (i := i) (j := 3) (m := 20) (es := l[i].parts.map strC) rfl (app_get (take_map_len hi)) rfl rfl (by simp) (by decide)) ?_
          refine vc_weak (Weak.close1 (nm := 25) (i := i) (j := 4) (m := 22) (es := l[i].hav.map boolC) rfl (set_get (app_lt (take_map_len hi))) rfl rfl (by simp) (by decide)) ?_
          refine vc_weak (Weak.node (m := 25) (nd' := ⟨6, clo ((l.take (i + 1)).map heldO)⟩) rfl (congrArg (Vm.Node.mk 6) ((List.set_set _).trans ((app_set (take_map_len hi)).trans (clo_snoc.trans (congrArg clo (take_map_snoc (f := heldO) hil))))))) ?_
          refine vc_weak (Weak.close1 (nm := 18) (i := 0) (j := 0) (m := 25) (es := (l.take (i + 1)).map heldO) rfl rfl rfl rfl (by simp; omega) (by decide)) ?_
          refine vc_region ?_
          refine vl_q (q_add rfl rfl (IntWalk.i64_in _ (by omega))) (dk rfl) ?_
          refine vl_q (q_move rfl) (dk rfl) ?_
          refine vl_nil ?_
          refine ⟨_, _, ?_, ⟨i + 1, by omega, rfl, rfl⟩, (Weak.cut _ _ _ (Nat.le_of_ble_eq_true rfl) ⟨⟨rfl, rfl⟩, ⟨rfl, rfl⟩, ⟨rfl, rfl⟩, ⟨rfl, rfl⟩, ⟨rfl, rfl⟩, trivial⟩ ⟨⟨Nat.le_of_ble_eq_true rfl, rfl, belN_all rfl⟩, ⟨Nat.le_of_ble_eq_true rfl, rfl, belN_all rfl⟩, ⟨Nat.le_of_ble_eq_true rfl, rfl, belN_all rfl⟩, trivial⟩ rfl)⟩
          omega
        · refine vl_bslice rfl rfl rfl rfl rfl rfl trivial (by decide) (by decide) (dk rfl) ?_
          refine vl_nil ?_
          refine va_all [2] (by kernel_rfl) (by simp) ⟨⟨_, rfl, ?_⟩, trivial⟩
          refine vl_callG [] (.v (.one (.hdr 21 0 _))) (c_impl_copyTexts l[i].parts hp) rfl rfl ⟨XOk.shc _ _, trivial⟩ trivial rfl (by decide) ⟨fix_clo _ _, trivial⟩ trivial rfl (.inr ⟨rfl, ⟨nzN_map strC_noZ, trivial⟩, trivial⟩) (dk rfl) ?_
          refine vl_nil ?_
          refine va_q 7 rfl (by kernel_rfl) (by kernel_rfl) (by kernel_rfl) (q_fieldAddr 3 rfl rfl rfl rfl (by decide) rfl rfl) (dk rfl) ?_
          refine va_all [6] (by kernel_rfl) (by simp) ⟨⟨_, rfl, ?_⟩, trivial⟩
          refine vl_append rfl rfl rfl rfl (fun _ h => TypeDesc.noConfusion h) rfl rfl rfl (Nat.le_refl _) (src_sh rfl rfl (map_wid fun _ => rfl)) (by simp only [List.length_map]; show _ * 1 ≤ _; omega) (by simp only [List.length_map]; omega) (dk rfl) ?_
          simp only [List.drop_nil, List.take_nil, List.nil_append, List.length_map, Nat.zero_add]
          refine vl_nil ?_
          refine va_all [8] (by kernel_rfl) (by simp) ⟨⟨_, rfl, ?_⟩, trivial⟩
          refine vl_store rfl rfl rfl rfl rfl rfl (Nat.le_of_ble_eq_true rfl) trivial ?_
          refine vl_nil ?_
          refine va_q 9 rfl (by kernel_rfl) (by kernel_rfl) (by kernel_rfl) (q_fieldAddr 4 rfl rfl rfl rfl (by decide) rfl rfl) (dk rfl) ?_
          refine va_all [10] (by kernel_rfl) (by simp) ⟨⟨_, rfl, ?_⟩, trivial⟩
          refine vl_store rfl rfl rfl rfl rfl rfl (Nat.le_of_ble_eq_true rfl) trivial ?_
          refine vl_nil ?_
          refine va_done (by kernel_rfl) ?_
          refine hK9 _ ?_
          refine vc_region ?_
          refine vl_q (q_fieldAddr 0 rfl rfl rfl rfl (by decide) rfl rfl) (dk rfl) ?_
          refine vl_open (nm := 18) (i := 0) (j := 0) rfl rfl rfl rfl rfl rfl ?_
          simp only [List.length_map, List.length_take, Nat.min_eq_left hi]
          refine vl_load rfl rfl rfl rfl rfl rfl rfl (by decide) (dk rfl) ?_
          refine vl_load rfl rfl rfl rfl rfl rfl rfl (by decide) (dk rfl) ?_
          refine vl_bslice rfl rfl rfl rfl rfl rfl ⟨rfl, trivial⟩ (by decide) (by decide) (dk rfl) ?_
          refine vl_append rfl rfl rfl rfl (fun _ h => TypeDesc.noConfusion h) rfl rfl rfl (by rw [Nat.zero_add]; exact Nat.le_of_eq (by simp; omega)) (src_row rfl rfl rfl rfl) (by show (i + 1) * 80 ≤ _; omega) (by show i + 1 < _; omega) (dk rfl) ?_
          refine vl_q (q_fieldAddr 0 rfl rfl rfl rfl (by decide) rfl rfl) (dk rfl) ?_
          refine vl_store rfl rfl rfl rfl rfl rfl (Nat.le_of_ble_eq_true rfl) trivial ?_
          refine vl_nil ?_
          refine hK7 _ ?_
          refine vc_weak (Weak.node (m := 25) rfl (congrArg (Vm.Node.mk 6) (app_take (take_map_len (f := heldO) hi)))) ?_
          refine vc_weak (Weak.close1 (nm := 25) (i := i) (j := 3) (m := 21) (es := l[i].parts.map strC) rfl (app_get (take_map_len hi)) rfl rfl (by simp) (by decide)) ?_
          refine vc_weak (Weak.close1 (nm := 25) (i := i) (j := 4) (m := 22) (es := l[i].hav.map boolC) rfl (set_get (app_lt (take_map_len hi))) rfl rfl (by simp) (by decide)) ?_
          refine vc_weak (Weak.node (m := 25) (nd' := ⟨6, clo ((l.take (i + 1)).map heldO)⟩) rfl (congrArg (Vm.Node.mk 6) ((List.set_set _).trans ((app_set (take_map_len hi)).trans (clo_snoc.trans (congrArg clo (take_map_snoc (f := heldO) hil))))))) ?_
          refine vc_weak (Weak.close1 (nm := 18) (i := 0) (j := 0) (m := 25) (es := (l.take (i + 1)).map heldO) rfl rfl rfl rfl (by simp; omega) (by decide)) ?_
          refine vc_region ?_
          refine vl_q (q_add rfl rfl (IntWalk.i64_in _ (by omega))) (dk rfl) ?_
          refine vl_q (q_move rfl) (dk rfl) ?_
          refine vl_nil ?_
          refine ⟨_, _, ?_, ⟨i + 1, by omega, rfl, rfl⟩, (Weak.cut _ _ _ (Nat.le_of_ble_eq_true rfl) ⟨⟨rfl, rfl⟩, ⟨rfl, rfl⟩, ⟨rfl, rfl⟩, ⟨rfl, rfl⟩, ⟨rfl, rfl⟩, trivial⟩ ⟨⟨Nat.le_of_ble_eq_true rfl, rfl, belN_all rfl⟩, ⟨Nat.le_of_ble_eq_true rfl, rfl, belN_all rfl⟩, ⟨Nat.le_of_ble_eq_true rfl, rfl, belN_all rfl⟩, trivial⟩ rfl)⟩
          omega
      · refine vl_bslice rfl rfl rfl rfl rfl rfl trivial (by decide) (by decide) (dk rfl) ?_
        refine vl_nil ?_
        refine va_all [1] (by kernel_rfl) (by simp) ⟨⟨_, rfl, ?_⟩, trivial⟩
        refine vl_load rfl rfl rfl rfl rfl rfl rfl (by decide) (dk rfl) ?_
        refine vl_nil ?_
        refine va_all [2] (by kernel_rfl) (by simp) ⟨⟨_, rfl, ?_⟩, trivial⟩
        refine vl_callG [] (.v (.one (.hdr 21 0 _))) (c_impl_copyTexts l[i].parts hp) rfl rfl ⟨XOk.shc _ _, trivial⟩ trivial rfl (by decide) ⟨fix_clo _ _, trivial⟩ trivial rfl (.inr ⟨rfl, ⟨nzN_map strC_noZ, trivial⟩, trivial⟩) (dk rfl) ?_
        refine vl_nil ?_
        refine va_q 7 rfl (by kernel_rfl) (by kernel_rfl) (by kernel_rfl) (q_fieldAddr 3 rfl rfl rfl rfl (by decide) rfl rfl) (dk rfl) ?_
        refine va_all [6] (by kernel_rfl) (by simp) ⟨⟨_, rfl, ?_⟩, trivial⟩
        refine vl_append rfl rfl rfl rfl (fun _ h => TypeDesc.noConfusion h) rfl rfl rfl (Nat.le_refl _) (src_sh rfl rfl (map_wid fun _ => rfl)) (by simp only [List.length_map]; show _ * 1 ≤ _; omega) (by simp only [List.length_map]; omega) (dk rfl) ?_
        simp only [List.drop_nil, List.take_nil, List.nil_append, List.length_map, Nat.zero_add]
        refine vl_nil ?_
        refine va_all [8] (by kernel_rfl) (by simp) ⟨⟨_, rfl, ?_⟩, trivial⟩
        refine vl_store rfl rfl rfl rfl rfl rfl (Nat.le_of_ble_eq_true rfl) trivial ?_
        refine vl_nil ?_
        refine va_q 9 rfl (by kernel_rfl) (by kernel_rfl) (by kernel_rfl) (q_fieldAddr 4 rfl rfl rfl rfl (by decide) rfl rfl) (dk rfl) ?_
        refine va_all [10] (by kernel_rfl) (by simp) ⟨⟨_, rfl, ?_⟩, trivial⟩
        refine vl_store rfl rfl rfl rfl rfl rfl (Nat.le_of_ble_eq_true rfl) trivial ?_
        refine vl_nil ?_
        refine va_done (by kernel_rfl) ?_
        refine hK9 _ ?_
        refine vc_region ?_
        refine vl_q (q_fieldAddr 0 rfl rfl rfl rfl (by decide) rfl rfl) (dk rfl) ?_
        refine vl_open (nm := 18) (i := 0) (j := 0) rfl rfl rfl rfl rfl rfl ?_
        simp only [List.length_map, List.length_take, Nat.min_eq_left hi]
        refine vl_load rfl rfl rfl rfl rfl rfl rfl (by decide) (dk rfl) ?_
        refine vl_load rfl rfl rfl rfl rfl rfl rfl (by decide) (dk rfl) ?_
        refine vl_bslice rfl rfl rfl rfl rfl rfl ⟨rfl, trivial⟩ (by decide) (by decide) (dk rfl) ?_
        refine vl_append rfl rfl rfl rfl (fun _ h => TypeDesc.noConfusion h) rfl rfl rfl (by rw [Nat.zero_add]; exact Nat.le_of_eq (by simp; omega)) (src_row rfl rfl rfl rfl) (by show (i + 1) * 80 ≤ _; omega) (by show i + 1 < _; omega) (dk rfl) ?_
        refine vl_q (q_fieldAddr 0 rfl rfl rfl rfl (by decide) rfl rfl) (dk rfl) ?_
        refine vl_store rfl rfl rfl rfl rfl rfl (Nat.le_of_ble_eq_true rfl) trivial ?_
        refine vl_nil ?_
        refine hK7 _ ?_
        refine vc_weak (Weak.node (m := 25) rfl (congrArg (Vm.Node.mk 6) (app_take (take_map_len (f := heldO) hi)))) ?_
        refine vc_weak (Weak.close1 (nm := 25) (i := i) (j := 3) (m := 21) (es := l[i].parts.map strC) rfl (app_get (take_map_len hi)) rfl rfl (by simp) (by decide)) ?_
        refine vc_weak (Weak.close1 (nm := 25) (i := i) (j := 4) (m := 22) (es := l[i].hav.map boolC) rfl (set_get (app_lt (take_map_len hi))) rfl rfl (by simp) (by decide)) ?_
        refine vc_weak (Weak.node (m := 25) (nd' := ⟨6, clo ((l.take (i + 1)).map heldO)⟩) rfl (congrArg (Vm.Node.mk 6) ((List.set_set _).trans ((app_set (take_map_len hi)).trans (clo_snoc.trans (congrArg clo (take_map_snoc (f := heldO) hil))))))) ?_
        refine vc_weak (Weak.close1 (nm := 18) (i := 0) (j := 0) (m := 25) (es := (l.take (i + 1)).map heldO) rfl rfl rfl rfl (by simp; omega) (by decide)) ?_
        refine vc_region ?_
        refine vl_q (q_add rfl rfl (IntWalk.i64_in _ (by omega))) (dk rfl) ?_
        refine vl_q (q_move rfl) (dk rfl) ?_
        refine vl_nil ?_
        refine ⟨_, _, ?_, ⟨i + 1, by omega, rfl, rfl⟩, (Weak.cut _ _ _ (Nat.le_of_ble_eq_true rfl) ⟨⟨rfl, rfl⟩, ⟨rfl, rfl⟩, ⟨rfl, rfl⟩, ⟨rfl, rfl⟩, ⟨rfl, rfl⟩, trivial⟩ ⟨⟨Nat.le_of_ble_eq_true rfl, rfl, belN_all rfl⟩, ⟨Nat.le_of_ble_eq_true rfl, rfl, belN_all rfl⟩, ⟨Nat.le_of_ble_eq_true rfl, rfl, belN_all rfl⟩, trivial⟩ rfl)⟩
        omega
  · replace h11 := lss_nof h11
    refine vl_nil ?_
    refine hK5 _ ?_
    refine vc_seq fun K11 hK11 => ?_
    refine vc_cond_false rfl ?_
    refine vc_exit ?_
    refine hK3 _ ?_
    refine vc_seq fun K12 hK12 => ?_
    obtain rfl : i = l.length := by omega
    refine vc_weak (Weak.node (m := 18) (nd' := ⟨1, [[.c (.own 6 (l.map heldO))]]⟩) rfl (by rw [List.take_length])) ?_
    refine vc_region ?_
    refine vl_open (nm := 18) (i := 0) (j := 0) rfl rfl rfl rfl rfl rfl ?_
    simp only [List.length_map]
    refine vl_load rfl rfl rfl rfl rfl rfl rfl (by decide) (dk rfl) ?_
    refine vl_store rfl rfl rfl rfl rfl rfl (Nat.le_of_ble_eq_true rfl) trivial ?_
    refine vl_nil ?_
    refine hK12 _ ?_
    refine vc_ret ?_
    refine ret_g [19] rfl (.cons (res_cell rfl rfl rfl rfl rfl rfl rfl (by decide)) .nil) rfl rfl (nodupB_ok rfl) ⟨by decide, trivial⟩ ⟨⟨_, rfl, NR.clo _ _ _ _⟩, trivial⟩ trivial (Nat.zero_le _)
end Go.Vm.S
namespace Go.Vm.S
open Go Go.Vm
set_option maxRecDepth 100000
set_option linter.unusedVariables false
set_option maxHeartbeats 4000000
theorem at28 : FnAt Pg 28 Go.Proofs.Try.f28 := ⟨by kernel_rfl, rfl, by decide⟩
theorem c_impl_within (n lo hi : Int) :
    Ctr Pg ty 28 [iv n, iv lo, iv hi] [] (Gives (vv (.bool (within n lo hi))) [] []) := by
  refine ctr at28 rfl (nsK_gives rfl trivial trivial) (Nat.le_of_ble_eq_true rfl) fun w0 S0 L0 Z => ?_
  refine vc_seq fun K1 hK1 => ?_
  refine vc_region ?_
  refine vl_q (q_assign rfl) (dk rfl) ?_
  refine vl_nil ?_
  refine hK1 _ ?_
  refine vc_seq fun K2 hK2 => ?_
  refine vc_region ?_
  refine vl_q (q_move rfl) (dk rfl) ?_
  refine vl_q (q_move rfl) (dk rfl) ?_
  refine vl_two (x := fun b => vv (.bool b)) _ (q_cmp rfl rfl rfl rfl) (dk rfl) (fun h9 => ?_) (fun h9 => ?_)
  · replace h9 := geq_of h9
    refine vl_q (q_move rfl) (dk rfl) ?_
    refine vl_guard_on rfl rfl rfl ?_
    refine vl_q (q_move rfl) (dk rfl) ?_
    refine vl_guard_on rfl rfl rfl ?_
    refine vl_q (q_move rfl) (dk rfl) ?_
    refine vl_guard_on rfl rfl rfl ?_
    refine vl_two (x := fun b => vv (.bool b)) _ (q_cmp rfl rfl rfl rfl) (dk rfl) (fun h13 => ?_) (fun h13 => ?_)
    · replace h13 := leq_of h13
      refine vl_q (q_pick_true rfl rfl) (dk rfl) ?_
      refine vl_q (q_assign rfl) (dk rfl) ?_
      refine vl_nil ?_
      refine hK2 _ ?_
      refine vc_ret ?_
      refine ret_p rfl (.cons (res_tmp rfl) .nil) rfl ?_
      first | (rw [within_t (by omega) (by omega)]; rfl) | (rw [within_f (by omega)]; rfl)
    · replace h13 := leq_nof h13
      refine vl_q (q_pick_true rfl rfl) (dk rfl) ?_
      refine vl_q (q_assign rfl) (dk rfl) ?_
      refine vl_nil ?_
      refine hK2 _ ?_
      refine vc_ret ?_
      refine ret_p rfl (.cons (res_tmp rfl) .nil) rfl ?_
      first | (rw [within_t (by omega) (by omega)]; rfl) | (rw [within_f (by omega)]; rfl)
  · replace h9 := geq_nof h9
    refine vl_q (q_move rfl) (dk rfl) ?_
    refine vl_goff rfl rfl rfl (by decide) (dk rfl) ?_
    refine vl_goff rfl rfl rfl (by decide) (dk rfl) ?_
    refine vl_goff rfl rfl rfl (by decide) (dk rfl) ?_
    refine vl_q (q_pick_false rfl rfl) (dk rfl) ?_
    refine vl_q (q_assign rfl) (dk rfl) ?_
    refine vl_nil ?_
    refine hK2 _ ?_
    refine vc_ret ?_
    refine ret_p rfl (.cons (res_tmp rfl) .nil) rfl ?_
    first | (rw [within_t (by omega) (by omega)]; rfl) | (rw [within_f (by omega)]; rfl)
theorem at30 : FnAt Pg 30 Go.Proofs.Try.f30 := ⟨by kernel_rfl, rfl, by decide⟩
theorem c_spec_l01In (n lo hi : Int) :
    Ctr Pg ty 30 [iv n, iv lo, iv hi] [] (Gives (vv (.bool (within n lo hi))) [] []) := by
  refine ctr at30 rfl (nsK_gives rfl trivial trivial) (Nat.le_of_ble_eq_true rfl) fun w0 S0 L0 Z => ?_
  refine vc_seq fun K1 hK1 => ?_
  refine vc_region ?_
  refine vl_q (q_assign rfl) (dk rfl) ?_
  refine vl_nil ?_
  refine hK1 _ ?_
  refine vc_seq fun K2 hK2 => ?_
  refine vc_region ?_
  refine vl_q (q_move rfl) (dk rfl) ?_
  refine vl_q (q_move rfl) (dk rfl) ?_
  refine vl_two (x := fun b => vv (.bool b)) _ (q_cmp rfl rfl rfl rfl) (dk rfl) (fun h9 => ?_) (fun h9 => ?_)
  · replace h9 := geq_of h9
    refine vl_q (q_move rfl) (dk rfl) ?_
    refine vl_guard_on rfl rfl rfl ?_
    refine vl_q (q_move rfl) (dk rfl) ?_
    refine vl_guard_on rfl rfl rfl ?_
    refine vl_q (q_move rfl) (dk rfl) ?_
    refine vl_guard_on rfl rfl rfl ?_
    refine vl_two (x := fun b => vv (.bool b)) _ (q_cmp rfl rfl rfl rfl) (dk rfl) (fun h13 => ?_) (fun h13 => ?_)
    · replace h13 := leq_of h13
      refine vl_q (q_pick_true rfl rfl) (dk rfl) ?_
      refine vl_q (q_assign rfl) (dk rfl) ?_
      refine vl_nil ?_
      refine hK2 _ ?_
      refine vc_ret ?_
      refine ret_p rfl (.cons (res_tmp rfl) .nil) rfl ?_
      first | (rw [within_t (by omega) (by omega)]; rfl) | (rw [within_f (by omega)]; rfl)
    · replace h13 := leq_nof h13
      refine vl_q (q_pick_true rfl rfl) (dk rfl) ?_
      refine vl_q (q_assign rfl) (dk rfl) ?_
      refine vl_nil ?_
      refine hK2 _ ?_
      refine vc_ret ?_
      refine ret_p rfl (.cons (res_tmp rfl) .nil) rfl ?_
      first | (rw [within_t (by omega) (by omega)]; rfl) | (rw [within_f (by omega)]; rfl)
  · replace h9 := geq_nof h9
    refine vl_q (q_move rfl) (dk rfl) ?_
    refine vl_goff rfl rfl rfl (by decide) (dk rfl) ?_
    refine vl_goff rfl rfl rfl (by decide) (dk rfl) ?_
    refine vl_goff rfl rfl rfl (by decide) (dk rfl) ?_
    refine vl_q (q_pick_false rfl rfl) (dk rfl) ?_
    refine vl_q (q_assign rfl) (dk rfl) ?_
    refine vl_nil ?_
    refine hK2 _ ?_
    refine vc_ret ?_
    refine ret_p rfl (.cons (res_tmp rfl) .nil) rfl ?_
    first | (rw [within_t (by omega) (by omega)]; rfl) | (rw [within_f (by omega)]; rfl)
theorem at34 : FnAt Pg 34 Go.Proofs.Try.f34 := ⟨by kernel_rfl, rfl, by decide⟩
theorem c_impl_isId (n : Int) :
    Ctr Pg ty 34 [iv n] [] (Gives (vv (.bool (within n 1 99))) [] []) := by
  refine ctr at34 rfl (nsK_gives rfl trivial trivial) (Nat.le_of_ble_eq_true rfl) fun w0 S0 L0 Z => ?_
  refine vc_seq fun K1 hK1 => ?_
  refine vc_region ?_
  refine vl_q (q_assign rfl) (dk rfl) ?_
  refine vl_nil ?_
  refine hK1 _ ?_
  refine vc_seq fun K2 hK2 => ?_
  refine vc_region ?_
  refine vl_q (q_move rfl) (dk rfl) ?_
  refine vl_callP (c_impl_within _ _ _) rfl rfl ⟨XOk.val _, XOk.val _, XOk.val _, trivial⟩ rfl (.inl rfl) (dk rfl) ?_
  refine vl_q (q_assign rfl) (dk rfl) ?_
  refine vl_nil ?_
  refine hK2 _ ?_
  refine vc_ret ?_
  refine ret_p rfl (.cons (res_tmp rfl) .nil) rfl ?_
  rfl
end Go.Vm.S
