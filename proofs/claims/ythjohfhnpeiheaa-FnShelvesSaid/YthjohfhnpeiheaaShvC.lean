/- The library function strings.Join, as a contract. Plain words for a part that is added. Plain words for the reference's way to add a part. A shelf that is right stays right, whatever part comes. Pieces of a text, and how they come together again. The bounds of what the shelf gives when a part comes. A drawn shelf. Walks: spec.l01Byte, spec.l01Below, spec.l01Text (printed by vmgen.py). Walks: spec.l01Long, spec.l01PickInt (printed by vmgen.py). Walks: spec.l20Long (printed by vmgen.py). Walks: laws.big, spec.l01New (printed by vmgen.py). Walks: impl.within, spec.l01In, impl.isId (printed by vmgen.py). Walks: impl.byteText, spec.l05Byte, laws.sameTexts (printed by vmgen.py). Walks: spec.Split (printed by vmgen.py). Walks: impl.ReadPart, spec.ReadPart (printed by vmgen.py). A part that is read, in two cases. Walks: spec.l20Held, spec.l20All (printed by vmgen.py). Walks: spec.ShelfOk (printed by vmgen.py). Walks: spec.l20Copy (printed by vmgen.py). -/
import Derived.Test.YthjohfhnpeiheaaShvB
import Derived.Shelf.Strings.Builder1
import Derived.Shelf.Strings.Builder2
import Derived.Shelf.Strings.OnBuilder
import Derived.Test.YthjohfhnpeiheaaProg
set_option linter.all false
namespace Go.Proofs
open Go.Shelf
def Try.lays156_ren : Go.Shelf.Ren := ⟨fun | 156 => 38 | 165 => 59 | 166 => 60 | 169 => 61 | 240 => 70 | 241 => 71 | 276 => 79 | 277 => 80 | n => n, fun | 31 => 26 | 9 => 9 | 3 => 3 | 4 => 4 | 0 => 0 | 20 => 20 | 72 => 87 | 76 => 91 | 70 => 85 | 37 => 22 | 75 => 90 | 127 => 100 | 164 => 103 | 5 => 5 | 80 => 93 | n => n, fun | n => n⟩
theorem Try.lays156 : Go.Proofs.Lays.n156 Try.prog Try.lays156_ren := {
  mixed := by kernel_rfl
  f156 := Try.func38.trans (congrArg some (by kernel_rfl))
  f165 := Try.func59.trans (congrArg some (by kernel_rfl))
  f166 := Try.func60.trans (congrArg some (by kernel_rfl))
  f169 := Try.func61.trans (congrArg some (by kernel_rfl))
  f240 := Try.func70.trans (congrArg some (by kernel_rfl))
  f241 := Try.func71.trans (congrArg some (by kernel_rfl))
  f276 := Try.func79.trans (congrArg some (by kernel_rfl))
  f277 := Try.func80.trans (congrArg some (by kernel_rfl))
  t0 := Try.underlying0
  a0 := Try.isAgg0
  z0 := Try.sizeOf0
  v0 := Try.zeroValue0
  t3 := Try.underlying3
  a3 := Try.isAgg3
  z3 := Try.sizeOf3
  v3 := Try.zeroValue3
  t4 := Try.underlying4
  a4 := Try.isAgg4
  z4 := Try.sizeOf4
  v4 := Try.zeroValue4
  t9 := Try.underlying9
  a9 := Try.isAgg9
  z9 := Try.sizeOf9
  v9 := Try.zeroValue9
  t20 := Try.underlying20
  a20 := Try.isAgg20
  z20 := Try.sizeOf20
  v20 := Try.zeroValue20
  t31 := Try.underlying26
  a31 := Try.isAgg26
  z31 := Try.sizeOf26
  v31 := Try.zeroValue26
  t37 := Try.underlying22
  a37 := Try.isAgg22
  z37 := Try.sizeOf22
  v37 := Try.zeroValue22
  t70 := Try.underlying85
  a70 := Try.isAgg85
  z70 := Try.sizeOf85
  v70 := Try.zeroValue85
  t72 := Try.underlying87
  a72 := Try.isAgg87
  z72 := Try.sizeOf87
  v72 := Try.zeroValue87
  t75 := Try.underlying90
  a75 := Try.isAgg90
  z75 := Try.sizeOf90
  v75 := Try.zeroValue90
  t76 := Try.underlying91
  a76 := Try.isAgg91
  z76 := Try.sizeOf91
  v76 := Try.zeroValue91
  t127 := Try.underlying100
  a127 := Try.isAgg100
  z127 := Try.sizeOf100
  v127 := Try.zeroValue100
  t164 := Try.underlying103
  a164 := Try.isAgg103
  z164 := Try.sizeOf103
  v164 := Try.zeroValue103 }
theorem Try.Builder_Extra_156 : Builder.Extra Try.prog Try.lays156_ren := {
  sizeBuilder := by kernel_rfl
  liesBuilder := by kernel_rfl
  t5 := Try.underlying5
  a5 := Try.isAgg5
  z5 := Try.sizeOf5
  v5 := Try.zeroValue5
  infoByte := by kernel_rfl
  cellsByte := by kernel_rfl
  sizeByte := by kernel_rfl
  neB5 := by decide }
open Go.RowKit in
theorem Try.strings_Join_none (a : Option Addr) (c : Nat) (sep : ByteArray) (w : World) :
    Calls Try.prog 38 #[.slice a 0 c, .string sep] w fun e w' => e = .returned (.string ⟨#[]⟩) ∧ w' = w := Any.strings_Join_none Try.lays156 Try.Builder_Extra_156 a c sep w
open Go.RowKit in
theorem Try.strings_Join (bk o c : Nat) (xs : List ByteArray) (sep : ByteArray) (w : World) (hcells : ∀ (j : Nat) x, xs[j]? = some x → w.cell? ⟨bk, o + j, none⟩ = some (.string x)) (hbk : bk < w.heap.size) (hN : xs.length ≤ 140737488355328) (hcap : xs.length ≤ c) (hlen : (Lib.join (xs.map (·.data.toList)) sep.data.toList).length ≤ 140737488355328) :
    Calls Try.prog 38 #[.slice (some ⟨bk, o, none⟩) xs.length c, .string sep] w fun e w' => e = .returned (.string ⟨(Lib.join (xs.map (·.data.toList)) sep.data.toList).toArray⟩) ∧ Below w.heap.size w w' := Any.strings_Join Try.lays156 Try.Builder_Extra_156 bk o c xs sep w hcells hbk hN hcap hlen
end Go.Proofs
namespace Go.Vm.S
open Go Go.Vm
/-- texts, one behind the other -/
def catS (l : List ByteArray) : ByteArray := ⟨(l.map (·.data.toList)).flatten.toArray⟩
theorem intersperse_flat : ∀ (l : List (List UInt8)), (l.intersperse []).flatten = l.flatten
  | [] => rfl
  | [a] => rfl
  | a :: b :: r => by
    have := intersperse_flat (b :: r)
    simp only [List.intersperse, List.flatten_cons, List.nil_append]
    rw [this]; rfl
theorem join_cat (l : List (List UInt8)) : Lib.join l [] = l.flatten := by
  unfold Lib.join List.intercalate
  exact intersperse_flat l
theorem cat_len (l : List ByteArray) : (l.map (·.data.toList)).flatten.length = sumOf ByteArray.size l := by
  induction l with
  | nil => rfl
  | cons a t ih =>
    simp only [List.map_cons, List.flatten_cons, List.length_append, ih, sumOf, List.sum_cons]
    rfl
theorem cells_strs {w : World} {Z : Zn} {l : List ByteArray} {v : Value} {f : FP} (h : CM w Z (.sh 1 (l.map strC)) v f) :
    ∃ (A : Option Addr) (cap : Nat), v = .slice A l.length cap ∧ l.length ≤ cap ∧ l.length < 9223372036854775808 ∧ ∀ (j : Nat) x, l[j]? = some x → ∃ a, A = some a ∧ a.spot = none ∧ rd w a.block (a.off + j) = some (.string x) ∧ Z a.block (a.off + j) := by
  obtain ⟨A, cap, vals, hv, lim, hcap, wid, cel, sub⟩ := CM.sh_inv h
  rw [List.length_map] at hv lim hcap
  refine ⟨A, cap, hv, hcap, by omega, fun j x hj => ?_⟩
  have hfl : (l.map strC).flatten[j]? = some (.val (.string x)) := by
    have := flatten_get wid (i := j) (j := 0) (e := strC x) (by rw [List.getElem?_map, hj]; rfl) (by decide)
    simpa [strC] using this
  obtain ⟨a, h1, h2, h3, h4⟩ := cel j _ hfl
  refine ⟨a, h1, h2, ?_, h4⟩
  have hs := sub j _ hfl
  rw [h3]
  generalize hvj : vals j = u at hs
  cases hs
  rfl
theorem at38 : FnAt Pg 38 Go.Proofs.Try.f38 := ⟨by kernel_rfl, rfl, by decide⟩
theorem c_Join (l : List ByteArray) (hl : l.length ≤ 140737488355328) (hs : sumOf ByteArray.size l ≤ 140737488355328) : Ctr Pg ty 38 [shv 1 (l.map strC), sv ⟨#[]⟩] [] (Gives (vv (.string (catS l))) [] []) := by
  refine ctr_of_calls ⟨_, at38⟩ rfl rfl fun w L args _ hZ hlen hv => ?_
  match args, hlen with
  | [v0, v1], _ =>
    have h0 : CM w L.Z (.sh 1 (l.map strC)) v0 bot := hv 0 _ v0 rfl rfl
    have h1 : v1 = .string ⟨#[]⟩ := by
      have h1 : CM w L.Z (.val (.string ⟨#[]⟩)) v1 bot := hv 1 _ v1 rfl rfl
      cases h1; rfl
    subst h1
    obtain ⟨A, cap, rfl, hcap, _, hc⟩ := cells_strs h0
    match l, hc, hl, hs, hcap with
    | [], _, _, _, _ =>
      refine (Go.Proofs.Try.strings_Join_none A cap ⟨#[]⟩ w).mono fun e w' ⟨he, hw⟩ => ⟨he, ?_⟩
      subst hw; exact RowKit.Below.refl _ _
    | x :: r, hc, hl, hs, hcap =>
      obtain ⟨a, hA, hsp, hrd, hz⟩ := hc 0 x rfl
      subst hA
      obtain ⟨b, o, sp⟩ := a
      simp only at hsp; subst hsp
      have hj : Lib.join ((x :: r).map (·.data.toList)) (⟨#[]⟩ : ByteArray).data.toList = ((x :: r).map (·.data.toList)).flatten := join_cat _
      refine (Go.Proofs.Try.strings_Join b o cap (x :: r) ⟨#[]⟩ w (fun j y hy => ?_) (hZ _ _ hz) hl hcap (by rw [hj, cat_len]; exact hs)).mono fun e w' ⟨he, hw⟩ => ⟨?_, hw⟩
      · obtain ⟨a', h2, h3, h4, _⟩ := hc j y hy
        cases h2
        exact h4
      · rw [he, hj]; rfl
end Go.Vm.S
namespace Go.Vm.S
open Go Go.Vm

def part (t : ByteArray) : ByteArray := t.extract 3 t.size
def kIdx (l : List Held) (fr : Int) (t : ByteArray) : Nat := l.findIdx (sameK fr (byteAt t 0))
def putPart (x : Held) (p : Nat) (s : ByteArray) : Held := if x.hav[p]? = some true then x else { x with parts := x.parts.set p s, hav := x.hav.set p true }
def fresh (fr : Int) (t : ByteArray) (now : Int) : Held := ⟨fr, byteAt t 0, byteAt t 2, List.replicate (byteAt t 2) ⟨#[]⟩, List.replicate (byteAt t 2) false, now + 8⟩
noncomputable def addOk (l : List Held) (fr : Int) (t : ByteArray) (now : Int) : Bool := shelfB l && (within fr 1 99 && (rpOk t && (decide ((part t).size ≤ 120) && within now 0 999999992)))
def three (r : List Held) : List Held := if r.length = 3 then r.drop 1 else r
noncomputable def addP (l : List Held) (fr : Int) (t : ByteArray) (now : Int) : List Held × ByteArray × Bool :=
  if addOk l fr t now then
    if byteAt t 2 = 1 then (l, part t, true)
    else match l[kIdx l fr t]? with
      | some x => if x.cnt = byteAt t 2 then
          let y := putPart x (byteAt t 1) (part t)
          if y.hav.all id then (l.eraseIdx (kIdx l fr t), catS y.parts, true) else (l.set (kIdx l fr t) y, ⟨#[]⟩, false)
        else (three (l.eraseIdx (kIdx l fr t)) ++ [putPart (fresh fr t now) (byteAt t 1) (part t)], ⟨#[]⟩, false)
      | none => (three l ++ [putPart (fresh fr t now) (byteAt t 1) (part t)], ⟨#[]⟩, false)
  else (l, ⟨#[]⟩, false)
section
variable {l : List Held} {fr : Int} {t : ByteArray} {now : Int}
theorem addP_bad (h : addOk l fr t now = false) : addP l fr t now = (l, ⟨#[]⟩, false) := by unfold addP; rw [h]; rfl
theorem addOk_f (h : shelfB l = false ∨ within fr 1 99 = false ∨ rpOk t = false ∨ 120 < (part t).size ∨ within now 0 999999992 = false) : addOk l fr t now = false := by
  unfold addOk
  rcases h with h | h | h | h | h
  · rw [h]; rfl
  · rw [h]; simp
  · rw [h]; simp
  · rw [decide_eq_false (by omega)]; simp
  · rw [h]; simp
theorem addOk_t (h1 : shelfB l = true) (h2 : within fr 1 99 = true) (h3 : rpOk t = true) (h4 : (part t).size ≤ 120) (h5 : within now 0 999999992 = true) : addOk l fr t now = true := by
  unfold addOk; rw [h1, h2, h3, h5, decide_eq_true h4]; rfl
theorem addP_one (h : addOk l fr t now = true) (h1 : byteAt t 2 = 1) : addP l fr t now = (l, part t, true) := by unfold addP; rw [if_pos h, if_pos h1]
theorem addP_full {i : Nat} {y : Held} (h : addOk l fr t now = true) (h1 : byteAt t 2 ≠ 1) (hi : kIdx l fr t = i) (hil : i < l.length) (hc : l[i].cnt = byteAt t 2) (hy : putPart l[i] (byteAt t 1) (part t) = y) (hf : y.hav.all id = true) :
    addP l fr t now = (l.eraseIdx i, catS y.parts, true) := by
  subst hi; subst hy
  unfold addP; rw [if_pos h, if_neg h1, List.getElem?_eq_getElem hil]
  simp only [if_pos hc]
  rw [if_pos hf]
theorem addP_set {i : Nat} {y : Held} (h : addOk l fr t now = true) (h1 : byteAt t 2 ≠ 1) (hi : kIdx l fr t = i) (hil : i < l.length) (hc : l[i].cnt = byteAt t 2) (hy : putPart l[i] (byteAt t 1) (part t) = y) (hf : y.hav.all id = false) :
    addP l fr t now = (l.set i y, ⟨#[]⟩, false) := by
  subst hi; subst hy
  unfold addP; rw [if_pos h, if_neg h1, List.getElem?_eq_getElem hil]
  simp only [if_pos hc]
  rw [if_neg (by rw [hf]; simp)]
theorem addP_new (h : addOk l fr t now = true) (h1 : byteAt t 2 ≠ 1) (hc : ∀ (hil : kIdx l fr t < l.length), l[kIdx l fr t].cnt ≠ byteAt t 2) :
    addP l fr t now = (three (l.eraseIdx (kIdx l fr t)) ++ [putPart (fresh fr t now) (byteAt t 1) (part t)], ⟨#[]⟩, false) := by
  unfold addP; rw [if_pos h, if_neg h1]
  rcases Nat.lt_or_ge (kIdx l fr t) l.length with hil | hil
  · rw [List.getElem?_eq_getElem hil]; simp only [if_neg (hc hil)]
  · rw [List.getElem?_eq_none hil]; simp only; rw [List.eraseIdx_of_length_le hil]
theorem erase_rows {l : List Held} {i : Nat} (hi : i < l.length) {junk : List (List X)} : ((clo (l.map heldO)).take i ++ (clo (l.map heldO)).drop (i + 1) ++ junk).take (l.length - 1) = clo ((l.eraseIdx i).map heldO) := by
  rw [clo_take, clo_drop, clo_append, List.take_left' (by simp only [clo_len, List.length_map, List.length_append, List.length_take, List.length_drop]; omega), List.eraseIdx_eq_take_drop_succ]
/-- the only one of a key -/
theorem key_only (g : ShelfGood l) {id : Int} {i j : Nat} (hi : i < l.length) (hj : j < l.length) (h1 : sameK fr id l[i] = true) (h2 : sameK fr id l[j] = true) : i = j := by
  simp only [sameK, Bool.and_eq_true, decide_eq_true_eq] at h1 h2
  rcases Nat.lt_trichotomy i j with h | h | h
  · have := (g.rows j hj hj).2 i hi h
    rw [sameK_t (by rw [h1.1, h2.1]) (by rw [h1.2, h2.2])] at this; cases this
  · exact h
  · have := (g.rows i hi hi).2 j hj h
    rw [sameK_t (by rw [h1.1, h2.1]) (by rw [h1.2, h2.2])] at this; cases this
theorem kIdx_is (g : ShelfGood l) {i : Nat} (hi : i < l.length) (h1 : sameK fr (byteAt t 0) l[i] = true) : kIdx l fr t = i := by
  have hlt : kIdx l fr t < l.length := List.findIdx_lt_length_of_exists ⟨l[i], List.getElem_mem hi, h1⟩
  exact key_only g hlt hi (List.findIdx_getElem (w := hlt)) h1
theorem kIdx_none (h : ∀ x, x ∈ l → sameK fr (byteAt t 0) x = false) : kIdx l fr t = l.length := List.findIdx_eq_length.2 h
theorem rp_parts (h : rpOk t = true) : 3 ≤ t.size ∧ 1 ≤ byteAt t 2 ∧ byteAt t 2 ≤ 15 ∧ byteAt t 1 < byteAt t 2 := by
  simp only [rpOk, within, Bool.and_eq_true, decide_eq_true_eq] at h; omega
theorem put_t {x : Held} {p : Nat} {s : ByteArray} (h : p < x.hav.length) (hb : x.hav[p] = true) : putPart x p s = x := by
  unfold putPart; rw [List.getElem?_eq_getElem h, hb, if_pos rfl]
theorem put_f {x : Held} {p : Nat} {s : ByteArray} (h : p < x.hav.length) (hb : x.hav[p] = false) : putPart x p s = { x with parts := x.parts.set p s, hav := x.hav.set p true } := by
  unfold putPart; rw [List.getElem?_eq_getElem h, hb, if_neg (by simp)]
theorem put_len (x : Held) (p : Nat) (s : ByteArray) : (putPart x p s).parts.length = x.parts.length ∧ (putPart x p s).hav.length = x.hav.length := by
  unfold putPart; split <;> simp
theorem fresh_notall {n p : Nat} (hn : 2 ≤ n) (hp : p < n) : ((List.replicate n false).set p true).all id = false := by
  have : ∃ q, q < n ∧ q ≠ p := by
    by_cases h : p = 0
    · exact ⟨1, by omega, by omega⟩
    · exact ⟨0, by omega, by omega⟩
  obtain ⟨q, hq, hne⟩ := this
  have hl : q < ((List.replicate n false).set p true).length := by simpa using hq
  refine all_f hl ?_
  rw [List.getElem_set_ne (fun e => hne e.symm), List.getElem_replicate]
theorem sum120 : ∀ (l : List ByteArray), (∀ s, s ∈ l → s.size ≤ 120) → sumOf ByteArray.size l ≤ l.length * 120 := by
  intro l
  induction l with
  | nil => intro _; simp [sumOf]
  | cons a r ih =>
    intro h
    have h1 := ih fun s hs => h s (List.mem_cons_of_mem _ hs)
    have h2 := h a List.mem_cons_self
    simp only [sumOf, List.map_cons, List.sum_cons, List.length_cons] at h1 ⊢
    omega
theorem sz_put {x : Held} (g : HeldGood x) (p : Nat) {s : ByteArray} (hs : s.size ≤ 120) : sumOf ByteArray.size (putPart x p s).parts ≤ 1800 := by
  have hw := within_of g.cnt
  have hp := g.parts
  have hb : ∀ s, s ∈ x.parts → s.size ≤ 120 := fun s hs => by
    obtain ⟨j, hj, rfl⟩ := List.getElem_of_mem hs
    have h2 : j < x.hav.length := by have := g.hav; omega
    have := g.rows j h2 hj h2
    simp only [rowOk, Bool.and_eq_true, decide_eq_true_eq] at this
    exact this.1
  have := sum120 (putPart x p s).parts (fun y hy => by
    unfold putPart at hy
    split at hy
    · exact hb y hy
    · rcases List.mem_or_eq_of_mem_set hy with h | h
      · exact hb y h
      · rw [h]; exact hs)
  rw [(put_len x p s).1] at this
  omega
/-- a shelf with a place for the part -/
def FillP (l : List Held) (fr : Int) (t : ByteArray) (now : Int) (l3 : List Held) (a : Nat) : Prop :=
  (l3 = three (l.eraseIdx (kIdx l fr t)) ++ [fresh fr t now] ∧ a = (three (l.eraseIdx (kIdx l fr t))).length ∧ ∀ (hil : kIdx l fr t < l.length), l[kIdx l fr t].cnt ≠ byteAt t 2) ∨
  (l3 = l ∧ kIdx l fr t = a ∧ ∀ (hil : a < l.length), l[a].cnt = byteAt t 2)
theorem fill_len {l3 : List Held} {a : Nat} (g : ShelfGood l) (h : FillP l fr t now l3 a) (ha : a < l3.length) : l3[a].hav.length = byteAt t 2 ∧ l3[a].parts.length = byteAt t 2 := by
  rcases h with ⟨rfl, rfl, _⟩ | ⟨rfl, _, hc⟩
  · rw [List.getElem_append_right (Nat.le_refl _)]; simp [fresh]
  · have := (g.rows a ha ha).1
    have h1 := this.parts; have h2 := this.hav; have h3 := hc ha
    omega
theorem fill_sz {l3 : List Held} {a : Nat} (g : ShelfGood l) (h : FillP l fr t now l3 a) (ha : a < l3.length) (hr : rpOk t = true) (hs : (part t).size ≤ 120) : sumOf ByteArray.size (putPart l3[a] (byteAt t 1) (part t)).parts ≤ 1800 := by
  rcases h with ⟨rfl, rfl, _⟩ | ⟨rfl, _, hc⟩
  · have hp := rp_parts hr
    rw [List.getElem_append_right (Nat.le_refl _)]
    simp only [Nat.sub_self, List.getElem_cons_zero]
    have := sum120 (putPart (fresh fr t now) (byteAt t 1) (part t)).parts (fun y hy => by
      unfold putPart at hy
      split at hy
      · rw [List.eq_of_mem_replicate hy]; decide
      · rcases List.mem_or_eq_of_mem_set hy with h | h
        · rw [List.eq_of_mem_replicate h]; decide
        · rw [h]; exact hs)
    rw [(put_len _ _ _).1] at this
    simp only [fresh, List.length_replicate] at this
    simp only [fresh]
    omega
  · exact sz_put (g.rows a ha ha).1 _ hs
theorem fill_out {l3 : List Held} {a : Nat} (h0 : addOk l fr t now = true) (h1 : byteAt t 2 ≠ 1) (h : FillP l fr t now l3 a) (ha : a < l3.length) (hf : (putPart l3[a] (byteAt t 1) (part t)).hav.all id = false) :
    addP l fr t now = (l3.set a (putPart l3[a] (byteAt t 1) (part t)), ⟨#[]⟩, false) := by
  rcases h with ⟨rfl, rfl, hn⟩ | ⟨rfl, hk, hc⟩
  · rw [addP_new h0 h1 hn, List.getElem_append_right (Nat.le_refl _), List.set_append_right _ _ (Nat.le_refl _)]
    simp
  · exact addP_set h0 h1 hk ha (hc ha) rfl hf
theorem fill_full {l3 : List Held} {a : Nat} (h0 : addOk l fr t now = true) (hr : rpOk t = true) (h1 : byteAt t 2 ≠ 1) (h : FillP l fr t now l3 a) (ha : a < l3.length) (hf : (putPart l3[a] (byteAt t 1) (part t)).hav.all id = true) :
    addP l fr t now = (l3.eraseIdx a, catS (putPart l3[a] (byteAt t 1) (part t)).parts, true) := by
  rcases h with ⟨rfl, rfl, hn⟩ | ⟨rfl, hk, hc⟩
  · exfalso
    have hp := rp_parts hr
    rw [List.getElem_append_right (Nat.le_refl _)] at hf
    simp only [Nat.sub_self, List.getElem_cons_zero] at hf
    rw [put_f (by simp [fresh]; omega) (by simp [fresh])] at hf
    simp only [fresh] at hf
    rw [fresh_notall (by omega) (by omega)] at hf
    cases hf
  · exact addP_full h0 h1 hk ha (hc ha) rfl hf
theorem mem_all {l : List Bool} (h : decide (false ∈ l) = true) : l.all id = false := by
  have h := of_decide_eq_true h
  rw [List.all_eq_false]; exact ⟨false, h, by simp⟩
theorem nmem_all {l : List Bool} (h : decide (false ∈ l) = false) : l.all id = true := by
  have h := of_decide_eq_false h
  rw [List.all_eq_true]; intro x hx
  cases x with
  | true => rfl
  | false => exact absurd hx h
theorem three_t {r : List Held} (h : r.length = 3) : three r = r.drop 1 := if_pos h
theorem three_f {r : List Held} (h : r.length ≠ 3) : three r = r := if_neg h
theorem boolsC_shr (l : List Bool) : (l.map boolC).map (List.map C.shr) = l.map boolC := by
  rw [List.map_map]; exact List.map_congr_left fun h _ => boolC_shr h
theorem strsC_shr (l : List ByteArray) : (l.map strC).map (List.map C.shr) = l.map strC := by
  rw [List.map_map]; exact List.map_congr_left fun h _ => strC_shr h
theorem rep_clo {α : Type} {f : α → List C} {x : α} {n : Nat} : List.replicate n ((f x).map X.c) = clo ((List.replicate n x).map f) := by simp [clo]
theorem sz_part {x : Held} (g : HeldGood x) : sumOf ByteArray.size x.parts ≤ 15 * 120 := by
  have hw := within_of g.cnt
  have hp := g.parts
  have hb : ∀ s, s ∈ x.parts → s.size ≤ 120 := fun s hs => by
    obtain ⟨j, hj, rfl⟩ := List.getElem_of_mem hs
    have h2 : j < x.hav.length := by have := g.hav; omega
    have := g.rows j h2 hj h2
    simp only [rowOk, Bool.and_eq_true, decide_eq_true_eq] at this
    exact this.1
  have : ∀ (l : List ByteArray), (∀ s, s ∈ l → s.size ≤ 120) → sumOf ByteArray.size l ≤ l.length * 120 := by
    intro l
    induction l with
    | nil => intro _; simp [sumOf]
    | cons a r ih =>
      intro h
      have h1 := ih fun s hs => h s (List.mem_cons_of_mem _ hs)
      have h2 := h a List.mem_cons_self
      simp only [sumOf, List.map_cons, List.sum_cons, List.length_cons] at h1 ⊢
      omega
  have := this x.parts hb
  omega
end
end Go.Vm.S
namespace Go.Vm.S
open Go Go.Vm

/-- a held row, its arrays frozen -/
def heldF (h : Held) : List C := [.val (.int .i64 h.fr), .val (.int .i64 h.id), .val (.int .i64 h.cnt), .fz 1 (h.parts.map strC), .fz 1 (h.hav.map boolC), .val (.int .i64 h.til)]
theorem heldF_len (h : Held) : (heldF h).length = 6 := rfl
theorem heldF_shr (h : Held) : (heldF h).map C.shr = heldC h := by
  simp only [heldF, heldC, List.map_cons, List.map_nil, C.shr_val, C.shr_fz, List.map_map, Function.comp_def, strC_shr, boolC_shr]
theorem heldsF_shr (l : List Held) : (l.map heldF).map (List.map C.shr) = l.map heldC := by
  rw [List.map_map]; exact List.map_congr_left fun h _ => heldF_shr h
theorem strC_frz (s : ByteArray) : (strC s).map C.frz = strC s := by simp [strC, C.frz_val]
theorem boolC_frz (s : Bool) : (boolC s).map C.frz = boolC s := by simp [boolC, C.frz_val]
theorem strs_frz (l : List ByteArray) (n : Nat) (h : l.length ≤ n) : (((l.map strC).drop 0).take n).map (List.map C.frz) = l.map strC := by
  rw [List.drop_zero, List.take_of_length_le (by simpa using h), List.map_map]; exact List.map_congr_left fun h _ => strC_frz h
theorem bools_frz (l : List Bool) (n : Nat) (h : l.length ≤ n) : (((l.map boolC).drop 0).take n).map (List.map C.frz) = l.map boolC := by
  rw [List.drop_zero, List.take_of_length_le (by simpa using h), List.map_map]; exact List.map_congr_left fun h _ => boolC_frz h
/-- rows that are gone, rows that are there still -/
def jkR (l : List Held) (i : Nat) : List (List C) := List.replicate i anyR ++ (l.drop i).map heldO
theorem jkR_zero (l : List Held) : jkR l 0 = l.map heldO := by simp [jkR]
theorem jkR_len {l : List Held} {i : Nat} (h : i ≤ l.length) : (jkR l i).length = l.length := by simp [jkR]; omega
theorem jkR_at {l : List Held} {i : Nat} (h : i < l.length) : (clo (jkR l i))[i]? = some ((heldO l[i]).map X.c) := by
  have : (jkR l i)[i]? = some (heldO l[i]) := by
    unfold jkR
    rw [List.getElem?_append_right (by simp)]
    simp only [List.length_replicate, Nat.sub_self]
    rw [List.getElem?_map, List.getElem?_drop, Nat.add_zero, List.getElem?_eq_getElem h]; rfl
  simp only [clo, List.getElem?_map, this, Option.map_some]
theorem jkR_wid (l : List Held) (i : Nat) : ∀ e, e ∈ jkR l i → e.length = 6 := by
  intro e he
  rcases List.mem_append.1 he with h | h
  · rw [List.eq_of_mem_replicate h]; rfl
  · obtain ⟨x, _, rfl⟩ := List.mem_map.1 h; rfl
theorem jkR_next {l : List Held} {i : Nat} (h : i < l.length) : (clo (jkR l i)).set i (List.replicate 6 (X.c .any)) = clo (jkR l (i + 1)) := by
  have : (List.replicate 6 (X.c .any)) = anyR.map X.c := by simp [anyR]
  rw [this]
  unfold jkR clo
  rw [List.map_append, List.map_append, List.set_append_right _ _ (by simp)]
  simp only [List.length_map, List.length_replicate, Nat.sub_self]
  rw [List.drop_eq_getElem_cons h, List.map_cons, List.map_cons, List.set_cons_zero, List.replicate_succ']
  simp
/-- what is not of the key, of the first i -/
def rst (l : List Held) (fr : Int) (t : ByteArray) (i : Nat) : List Held := (l.take i).eraseIdx (kIdx l fr t)
/-- what is found of the key, of the first i -/
def XP (l : List Held) (fr : Int) (t : ByteArray) (now : Int) (i : Nat) (x : Held) (at1 : Int) : Prop :=
  (kIdx l fr t < i ∧ (∃ h : kIdx l fr t < l.length, l[kIdx l fr t].cnt = byteAt t 2 ∧ x = l[kIdx l fr t]) ∧ at1 = kIdx l fr t) ∨
  ((∀ h : kIdx l fr t < l.length, kIdx l fr t < i → l[kIdx l fr t].cnt ≠ byteAt t 2) ∧ x = fresh fr t now ∧ at1 = -1)
section
variable {l : List Held} {fr : Int} {t : ByteArray} {now : Int}
theorem rst_zero : rst l fr t 0 = [] := by simp [rst]
theorem rst_ne {i : Nat} (h : i < l.length) (hk : kIdx l fr t ≠ i) : rst l fr t (i + 1) = rst l fr t i ++ [l[i]] := by
  unfold rst
  rw [List.take_add_one, List.getElem?_eq_getElem h, Option.toList_some]
  have hl : (l.take i).length = i := by simp; omega
  rcases Nat.lt_or_ge (kIdx l fr t) i with h1 | h1
  · rw [List.eraseIdx_append_of_lt_length (by omega)]
  · rw [List.eraseIdx_of_length_le (l := l.take i ++ [l[i]]) (by simp; omega), List.eraseIdx_of_length_le (l := l.take i) (by omega)]
theorem rst_eq {i : Nat} (h : i < l.length) (hk : kIdx l fr t = i) : rst l fr t (i + 1) = rst l fr t i := by
  unfold rst
  rw [List.take_add_one, List.getElem?_eq_getElem h, Option.toList_some]
  have hl : (l.take i).length = i := by simp; omega
  rw [List.eraseIdx_append_of_length_le (by omega), List.eraseIdx_of_length_le (l := l.take i) (by omega), hl, hk]
  simp
theorem rst_full : rst l fr t l.length = l.eraseIdx (kIdx l fr t) := by unfold rst; rw [List.take_length]
theorem rst_at {i : Nat} (h : i < l.length) (hk : kIdx l fr t = i) : (rst l fr t i).length = i := by
  unfold rst
  rw [List.eraseIdx_of_length_le (by rw [hk]; simp; omega)]; simp; omega
theorem rst_le (i : Nat) : (rst l fr t i).length ≤ l.length := by
  unfold rst; rw [List.length_eraseIdx]; split <;> simp <;> omega
theorem XP_zero : XP l fr t now 0 (fresh fr t now) (-1) := .inr ⟨fun _ h => absurd h (by omega), rfl, rfl⟩
theorem XP_ne {i : Nat} {x : Held} {at1 : Int} (h : XP l fr t now i x at1) (hk : kIdx l fr t ≠ i) : XP l fr t now (i + 1) x at1 := by
  rcases h with ⟨h1, h2, h3⟩ | ⟨h1, h2, h3⟩
  · exact .inl ⟨by omega, h2, h3⟩
  · exact .inr ⟨fun h h' => h1 h (by omega), h2, h3⟩
theorem XP_no {i : Nat} {x : Held} {at1 : Int} (h : XP l fr t now i x at1) (hi : i < l.length) (hk : kIdx l fr t = i) (hc : l[i].cnt ≠ byteAt t 2) : XP l fr t now (i + 1) x at1 := by
  rcases h with ⟨h1, h2, h3⟩ | ⟨h1, h2, h3⟩
  · omega
  · refine .inr ⟨fun h h' => ?_, h2, h3⟩
    simp only [hk]; exact hc
theorem XP_yes {i : Nat} (hi : i < l.length) (hk : kIdx l fr t = i) (hc : l[i].cnt = byteAt t 2) : XP l fr t now (i + 1) l[i] i :=
  by subst hk; exact .inl ⟨by omega, ⟨hi, hc, rfl⟩, rfl⟩
theorem XP_len {x : Held} {at1 : Int} (g : ShelfGood l) (h : XP l fr t now l.length x at1) : x.hav.length = byteAt t 2 ∧ x.parts.length = byteAt t 2 := by
  rcases h with ⟨_, ⟨h, hc, rfl⟩, _⟩ | ⟨_, rfl, _⟩
  · have := (g.rows _ h h).1
    have h1 := this.parts; have h2 := this.hav
    omega
  · simp [fresh]
theorem XP_sz {x : Held} {at1 : Int} (g : ShelfGood l) (h : XP l fr t now l.length x at1) (hr : rpOk t = true) (hs : (part t).size ≤ 120) : sumOf ByteArray.size (putPart x (byteAt t 1) (part t)).parts ≤ 1800 := by
  rcases h with ⟨_, ⟨hl, hc, rfl⟩, _⟩ | ⟨_, rfl, _⟩
  · exact sz_put (g.rows _ hl hl).1 _ hs
  · have := fill_sz (l3 := three (l.eraseIdx l.length) ++ [fresh fr t now]) (a := (three (l.eraseIdx l.length)).length) (l := []) (fr := fr) (t := t) (now := now)
    have h2 := sum120 (putPart (fresh fr t now) (byteAt t 1) (part t)).parts (fun y hy => by
      unfold putPart at hy
      split at hy
      · rw [List.eq_of_mem_replicate hy]; decide
      · rcases List.mem_or_eq_of_mem_set hy with h | h
        · rw [List.eq_of_mem_replicate h]; decide
        · rw [h]; exact hs)
    rw [(put_len _ _ _).1] at h2
    have := rp_parts hr
    simp only [fresh, List.length_replicate] at h2
    simp only [fresh]
    omega
theorem XP_full {x : Held} {at1 : Int} (h0 : addOk l fr t now = true) (hr : rpOk t = true) (h1 : byteAt t 2 ≠ 1) (h : XP l fr t now l.length x at1) (hf : (putPart x (byteAt t 1) (part t)).hav.all id = true) :
    addP l fr t now = (l.eraseIdx (kIdx l fr t), catS (putPart x (byteAt t 1) (part t)).parts, true) := by
  rcases h with ⟨_, ⟨hl, hc, rfl⟩, _⟩ | ⟨_, rfl, _⟩
  · exact addP_full h0 h1 rfl hl hc rfl hf
  · exfalso
    have hp := rp_parts hr
    rw [put_f (by simp [fresh]; omega) (by simp [fresh])] at hf
    simp only [fresh] at hf
    rw [fresh_notall (by omega) (by omega)] at hf
    cases hf
theorem XP_set {x : Held} {at1 : Int} (h0 : addOk l fr t now = true) (h1 : byteAt t 2 ≠ 1) (h : XP l fr t now l.length x at1) (ha : 0 ≤ at1) (hf : (putPart x (byteAt t 1) (part t)).hav.all id = false) :
    ∃ k : Nat, at1 = k ∧ k ≤ (l.eraseIdx (kIdx l fr t)).length ∧ addP l fr t now = ((l.eraseIdx (kIdx l fr t)).take k ++ [putPart x (byteAt t 1) (part t)] ++ (l.eraseIdx (kIdx l fr t)).drop k, ⟨#[]⟩, false) := by
  rcases h with ⟨_, ⟨hl, hc, rfl⟩, h3⟩ | ⟨_, _, h3⟩
  · refine ⟨kIdx l fr t, h3, by rw [List.length_eraseIdx, if_pos hl]; omega, ?_⟩
    rw [addP_set h0 h1 rfl hl hc rfl hf]
    congr 1
    rw [List.eraseIdx_eq_take_drop_succ, List.take_left' (by simp; omega), List.drop_left' (by simp; omega), List.set_eq_take_append_cons_drop, if_pos hl]
    simp
  · omega
theorem XP_new {x : Held} {at1 : Int} (h0 : addOk l fr t now = true) (h1 : byteAt t 2 ≠ 1) (h : XP l fr t now l.length x at1) (ha : at1 < 0) : addP l fr t now = (three (l.eraseIdx (kIdx l fr t)) ++ [putPart x (byteAt t 1) (part t)], ⟨#[]⟩, false) := by
  rcases h with ⟨_, _, h3⟩ | ⟨hn, rfl, h3⟩
  · omega
  · exact addP_new h0 h1 fun h => hn h h
theorem sz_held {x : Held} (hp : x.parts.length ≤ 15) (hh : x.hav.length ≤ 15) (hs : sumOf ByteArray.size x.parts ≤ 1800) : szHeld x ≤ 2000 := by unfold szHeld szStrs; omega
theorem sz_small : ∀ {l : List Held}, (∀ x, x ∈ l → szHeld x ≤ 2000) → szHelds l ≤ 2001 * l.length := by
  intro l
  induction l with
  | nil => intro _; simp [szHelds, sumOf]
  | cons a r ih =>
    intro h
    have h1 := ih fun x hx => h x (List.mem_cons_of_mem _ hx)
    have h2 := h a List.mem_cons_self
    simp only [szHelds, sumOf, List.map_cons, List.sum_cons, List.length_cons] at h1 ⊢
    omega
theorem sz_good (g : ShelfGood l) : ∀ x, x ∈ l → szHeld x ≤ 2000 := fun x hx => by
  obtain ⟨j, hj, rfl⟩ := List.getElem_of_mem hx
  have hg := (g.rows j hj hj).1
  have hw := within_of hg.cnt
  have h1 := hg.parts; have h2 := hg.hav
  exact sz_held (by omega) (by omega) (by have := sz_part hg; omega)
theorem catS_size (l : List ByteArray) : (catS l).size = sumOf ByteArray.size l := by
  have := cat_len l
  unfold catS
  rw [← this]; rfl
theorem catS_snoc (l : List ByteArray) (s : ByteArray) : catS (l ++ [s]) = catS l ++ s := by
  apply ByteArray.ext
  apply Array.ext'
  simp [catS, ByteArray.data_append]
theorem plainF (l : List Held) : ∀ e, e ∈ clo (l.map heldF) → e.all plainX = true := fun e he => by
  simp only [clo, List.mem_map] at he
  obtain ⟨x, ⟨h, _, rfl⟩, rfl⟩ := he
  rfl
theorem widF (l : List Held) : ∀ e, e ∈ clo (l.map heldF) → e.length = 6 := clo_wid (map_wid heldF_len)
theorem ins_rows {r : List Held} {y : Held} {k m n : Nat} {es : List (List X)} (h : k ≤ r.length) (hm : m = k) (hn : n = k + 1) :
    ((((es.drop 0).take 0 ++ clo ((r.take k).map heldF)).drop 0).take m ++ [(heldF y).map X.c] |>.drop 0).take n ++ clo ((r.drop k).map heldF) = clo ((r.take k ++ [y] ++ r.drop k).map heldF) := by
  subst hm; subst hn
  have h1 : (clo ((r.take m).map heldF)).length = m := by simp [clo_len]; omega
  rw [List.take_zero, List.nil_append, List.drop_zero, List.drop_zero, List.take_of_length_le (by rw [List.length_append, List.length_take, h1]; simp), List.take_of_length_le (by omega), clo_one, clo_append]
theorem ins_sz {r : List Held} {y : Held} {k : Nat} (hr : ∀ z, z ∈ r → szHeld z ≤ 2000) (hy : szHeld y ≤ 2000) : ∀ z, z ∈ r.take k ++ [y] ++ r.drop k → szHeld z ≤ 2000 := fun z hz => by
  rcases List.mem_append.1 hz with h | h
  · rcases List.mem_append.1 h with h | h
    · exact hr z (List.mem_of_mem_take h)
    · rw [List.mem_singleton.1 h]; exact hy
  · exact hr z (List.mem_of_mem_drop h)
theorem ins_len (r : List Held) (y : Held) {k : Nat} (h : k ≤ r.length) : (r.take k ++ [y] ++ r.drop k).length = r.length + 1 := by simp; omega
theorem new_sz {r : List Held} {y : Held} (hr : ∀ z, z ∈ r → szHeld z ≤ 2000) (hy : szHeld y ≤ 2000) : ∀ z, z ∈ three r ++ [y] → szHeld z ≤ 2000 := fun z hz => by
  rcases List.mem_append.1 hz with h | h
  · unfold three at h
    split at h
    · exact hr z (List.mem_of_mem_drop h)
    · exact hr z h
  · rw [List.mem_singleton.1 h]; exact hy
theorem new_len (r : List Held) (y : Held) : (three r ++ [y]).length ≤ r.length + 1 := by
  unfold three; split <;> simp
theorem tail_rows {r : List Held} {y : Held} (h : r.length = 3) {n : Nat} (hn : n = 2) : ((clo (r.map heldF)).drop 1).take n ++ [(heldF y).map X.c] = clo ((three r ++ [y]).map heldF) := by
  subst hn
  rw [three_t h, clo_drop, List.take_of_length_le (by simp [clo_len]; omega), clo_one]
theorem all_rows {r : List Held} {y : Held} (h : r.length ≠ 3) {n : Nat} (hn : n = r.length) : ((clo (r.map heldF)).drop 0).take n ++ [(heldF y).map X.c] = clo ((three r ++ [y]).map heldF) := by
  subst hn
  rw [three_f h, List.drop_zero, List.take_of_length_le (by simp [clo_len]), clo_one]
theorem key_of {i : Nat} (h : i < l.length) (e : kIdx l fr t = i) : sameK fr (byteAt t 0) l[i] = true := by
  subst e; exact List.findIdx_getElem (w := h)
theorem take_snoc {l : List ByteArray} {k : Nat} (h : k < l.length) : l.take (k + 1) = l.take k ++ [l[k]] := by
  rw [List.take_add_one, List.getElem?_eq_getElem h]; rfl
theorem catS_nil : catS [] = ⟨#[]⟩ := rfl
end
end Go.Vm.S
namespace Go.Vm.S
open Go Go.Vm

def Apart (l : List Held) : Prop := l.Pairwise fun a b => sameK b.fr b.id a = false
theorem shelf_iff {l : List Held} : ShelfGood l ↔ (∀ x, x ∈ l → HeldGood x) ∧ Apart l ∧ l.length ≤ 3 := by
  constructor
  · intro h
    refine ⟨fun x hx => ?_, ?_, h.len⟩
    · obtain ⟨j, hj, rfl⟩ := List.getElem_of_mem hx
      exact (h.rows j hj hj).1
    · unfold Apart; rw [List.pairwise_iff_getElem]
      intro i j hi hj hlt
      exact (h.rows j hj hj).2 i hi hlt
  · rintro ⟨h1, h2, h3⟩
    unfold Apart at h2; rw [List.pairwise_iff_getElem] at h2
    exact ⟨fun j hj _ => ⟨h1 _ (List.getElem_mem hj), fun k hk hlt => h2 k j hk hj hlt⟩, h3⟩
theorem good_nil : ShelfGood [] := shelf_iff.2 ⟨fun x h => by simp at h, List.Pairwise.nil, by simp⟩
theorem good_sub {l r : List Held} (h : ShelfGood l) (hs : r.Sublist l) : ShelfGood r := by
  obtain ⟨h1, h2, h3⟩ := shelf_iff.1 h
  exact shelf_iff.2 ⟨fun x hx => h1 x (hs.subset hx), h2.sublist hs, Nat.le_trans hs.length_le h3⟩
theorem good_kept {l : List Held} (now : Int) (h : ShelfGood l) : ShelfGood (kept now l) := good_sub h List.filter_sublist
/-- a held text but for what it has -/
structure HeldPre (h : Held) : Prop where
  fr : within h.fr 1 99 = true
  id : within h.id 0 255 = true
  cnt : within h.cnt 2 15 = true
  parts : (h.parts.length : Int) = h.cnt
  hav : (h.hav.length : Int) = h.cnt
  rows : rowsOk h h.hav.length
  til : within h.til 0 1000000000 = true
theorem HeldGood.pre {h : Held} (g : HeldGood h) : HeldPre h := ⟨g.fr, g.id, g.cnt, g.parts, g.hav, g.rows, g.til⟩
theorem haveN_all (l : List Bool) : haveN l l.length = l.countP id := by unfold haveN; rw [List.take_length]
theorem put_good {x : Held} {p : Nat} {s : ByteArray} (g : HeldPre x) (hp : p < x.hav.length) (hs : s.size ≤ 120) (hf : (putPart x p s).hav.all id = false) : HeldGood (putPart x p s) := by
  have hl := put_len x p s
  have hpp : p < x.parts.length := by have := g.parts; have := g.hav; omega
  have hrows : rowsOk (putPart x p s) (putPart x p s).hav.length := by
    intro j h1 h2 _
    unfold putPart at h1 h2 ⊢
    split
    · rename_i hb
      simp only [hb, if_true] at h1 h2
      exact g.rows j h1 h2 h1
    · rename_i hb
      simp only [hb, if_false] at h1 h2
      simp only [List.length_set] at h1 h2
      by_cases e : p = j
      · subst e
        simp only [List.getElem_set_self]
        exact rowOk_t hs (.inl rfl)
      · simp only [List.getElem_set_ne e]
        exact g.rows j h1 h2 h1
  have hone : ∃ b, b ∈ (putPart x p s).hav ∧ id b = true := by
    unfold putPart
    split
    · rename_i hb
      exact ⟨true, List.mem_of_getElem? hb, rfl⟩
    · exact ⟨true, List.mem_set hp true, rfl⟩
  have h1 : 0 < (putPart x p s).hav.countP id := List.countP_pos_iff.2 hone
  have h2 : (putPart x p s).hav.countP id < (putPart x p s).hav.length := by
    have hle := List.countP_le_length (p := id) (l := (putPart x p s).hav)
    refine Nat.lt_of_le_of_ne hle fun he => ?_
    have := List.countP_eq_length.1 he
    rw [List.all_eq_true.2 this] at hf
    cases hf
  have hsame : (putPart x p s).fr = x.fr ∧ (putPart x p s).id = x.id ∧ (putPart x p s).cnt = x.cnt ∧ (putPart x p s).til = x.til := by
    unfold putPart; split <;> exact ⟨rfl, rfl, rfl, rfl⟩
  obtain ⟨e1, e2, e3, e4⟩ := hsame
  have g1 := g.parts
  have g2 := g.hav
  exact ⟨by rw [e1]; exact g.fr, by rw [e2]; exact g.id, by rw [e3]; exact g.cnt, by rw [hl.1, e3]; exact g1, by rw [hl.2, e3]; exact g2, hrows,
    by rw [haveN_all]; omega, by rw [haveN_all, e3]; rw [hl.2] at h2; omega, by rw [e4]; exact g.til⟩
theorem put_keys (x : Held) (p : Nat) (s : ByteArray) : (putPart x p s).fr = x.fr ∧ (putPart x p s).id = x.id := by unfold putPart; split <;> exact ⟨rfl, rfl⟩
theorem addOk_parts {l : List Held} {fr : Int} {t : ByteArray} {now : Int} (h : addOk l fr t now = true) :
    ShelfGood l ∧ within fr 1 99 = true ∧ rpOk t = true ∧ (part t).size ≤ 120 ∧ within now 0 999999992 = true := by
  unfold addOk at h
  simp only [Bool.and_eq_true, decide_eq_true_eq] at h
  exact ⟨of_decide_eq_true h.1, h.2.1, h.2.2.1, h.2.2.2.1, h.2.2.2.2⟩
theorem fresh_pre {fr : Int} {t : ByteArray} {now : Int} (hfr : within fr 1 99 = true) (hr : rpOk t = true) (h1 : byteAt t 2 ≠ 1) (hw : within now 0 999999992 = true) : HeldPre (fresh fr t now) := by
  have hp := rp_parts hr
  have hb := byteAt_lt t 0
  have hn := within_of hw
  refine ⟨hfr, within_t (by simp only [fresh]; omega) (by simp only [fresh]; omega), within_t (by simp only [fresh]; omega) (by simp only [fresh]; omega), by simp [fresh], by simp [fresh], ?_, within_t (by simp only [fresh]; omega) (by simp only [fresh]; omega)⟩
  intro j h1 h2 _
  simp only [fresh, List.getElem_replicate]
  exact rowOk_t (by decide) (.inr rfl)
theorem erased {l : List Held} {fr : Int} {t : ByteArray} (g : ShelfGood l) : ∀ x, x ∈ l.eraseIdx (kIdx l fr t) → sameK fr (byteAt t 0) x = false := by
  intro x hx
  rcases Nat.lt_or_ge (kIdx l fr t) l.length with hlt | hge
  · obtain ⟨j, hj, rfl⟩ := List.getElem_of_mem hx
    have hk : sameK fr (byteAt t 0) l[kIdx l fr t] = true := List.findIdx_getElem (w := hlt)
    refine Bool.eq_false_iff.2 fun he => ?_
    have hle := List.length_eraseIdx_of_lt hlt
    rw [List.getElem_eraseIdx] at he
    split at he
    · have := key_only g hlt (by omega) hk he; omega
    · have := key_only g hlt (by omega) hk he; omega
  · rw [List.eraseIdx_of_length_le hge] at hx
    refine Bool.eq_false_iff.2 fun he => ?_
    have := List.findIdx_lt_length_of_exists (p := sameK fr (byteAt t 0)) ⟨x, hx, he⟩
    unfold kIdx at hge; omega
theorem sameK_symm {a b : Held} (h : sameK b.fr b.id a = false) : sameK a.fr a.id b = false := by
  refine Bool.eq_false_iff.2 fun he => ?_
  simp only [sameK, Bool.and_eq_true, decide_eq_true_eq] at he
  rw [sameK_t he.1.symm he.2.symm] at h; cases h
theorem addP_good {l : List Held} {fr : Int} {t : ByteArray} {now : Int} (g : ShelfGood l) : ShelfGood (addP l fr t now).1 := by
  rcases Bool.eq_false_or_eq_true (addOk l fr t now) with h | h
  · by_cases h1 : byteAt t 2 = 1
    · rw [addP_one h h1]; exact g
    · obtain ⟨_, hfr, hr, hp, hw⟩ := addOk_parts h
      have hrl := rp_parts hr
      generalize hk : kIdx l fr t = k at *
      have hN : (∀ (hil : k < l.length), l[k].cnt ≠ byteAt t 2) → ShelfGood (addP l fr t now).1 := fun hc => by
        subst hk
        rw [addP_new h h1 hc]
        have hg3 : ShelfGood (l.eraseIdx (kIdx l fr t)) := good_sub g (List.eraseIdx_sublist _ _)
        have hne := erased (fr := fr) (t := t) g
        generalize l.eraseIdx (kIdx l fr t) = r at *
        have hf : (putPart (fresh fr t now) (byteAt t 1) (part t)).hav.all id = false := by
          rw [put_f (by simp [fresh]; omega) (by simp [fresh])]
          exact fresh_notall (by omega) (by omega)
        have hgy := put_good (fresh_pre (now := now) hfr hr h1 hw) (p := byteAt t 1) (by simp [fresh]; omega) hp hf
        have hky := put_keys (fresh fr t now) (byteAt t 1) (part t)
        have h3 : (three r).Sublist r := by unfold three; split; exact List.drop_sublist _ _; exact List.Sublist.refl _
        have hl3 : (three r).length ≤ 2 := by
          have := hg3.len
          unfold three; split
          · rw [List.length_drop]; omega
          · omega
        obtain ⟨a1, a2, a3⟩ := shelf_iff.1 (good_sub hg3 h3)
        refine shelf_iff.2 ⟨fun x hx => ?_, ?_, by rw [List.length_append]; simp; omega⟩
        · rcases List.mem_append.1 hx with hx | hx
          · exact a1 x hx
          · rw [List.mem_singleton.1 hx]; exact hgy
        · refine List.pairwise_append.2 ⟨a2, List.pairwise_singleton _ _, fun a ha b hb => ?_⟩
          rw [List.mem_singleton.1 hb, hky.1, hky.2]
          exact hne a (h3.subset ha)
      rcases Nat.lt_or_ge k l.length with hil | hil
      · by_cases hcc : l[k].cnt = byteAt t 2
        · generalize hy : putPart l[k] (byteAt t 1) (part t) = y at *
          rcases Bool.eq_false_or_eq_true (y.hav.all id) with hf | hf
          · rw [addP_full h h1 hk hil hcc hy hf]; exact good_sub g (List.eraseIdx_sublist _ _)
          · rw [addP_set h h1 hk hil hcc hy hf]
            have hg := (g.rows _ hil hil).1
            have hgy : HeldGood y := by
              subst hy
              exact put_good hg.pre (by have := hg.hav; omega) hp hf
            have hky := put_keys l[k] (byteAt t 1) (part t)
            rw [hy] at hky
            obtain ⟨a1, a2, a3⟩ := shelf_iff.1 g
            refine shelf_iff.2 ⟨fun x hx => ?_, ?_, by rw [List.length_set]; exact a3⟩
            · rcases List.mem_or_eq_of_mem_set hx with hx | hx
              · exact a1 x hx
              · rw [hx]; exact hgy
            · unfold Apart at *
              rw [List.pairwise_iff_getElem] at a2 ⊢
              intro i j hi hj hlt
              rw [List.length_set] at hi hj
              have h0 := a2 i j hi hj hlt
              rw [List.getElem_set, List.getElem_set]
              split
              · rename_i e; subst e
                rw [if_neg (by omega)]
                unfold sameK at h0 ⊢; rw [hky.1, hky.2]; exact h0
              · split
                · rename_i e; subst e
                  unfold sameK at h0 ⊢; rw [hky.1, hky.2]; exact h0
                · exact h0
        · exact hN fun _ => hcc
      · exact hN fun hi => absurd hi (by omega)
  · rw [addP_bad h]; exact g
end Go.Vm.S
namespace Go.Vm.S
open Go Go.Vm

theorem mod2 {x n : Nat} (h : x < 2 * n) : x % n = if x < n then x else x - n := by
  split
  · exact Nat.mod_eq_of_lt ‹_›
  · rw [Nat.mod_eq_sub_mod (by omega)]; exact Nat.mod_eq_of_lt (by omega)
theorem quo_nat {a b : Nat} (ha : a ≤ 4611686018427387904) (hb : b ≤ 4611686018427387904) (h1 : 1 ≤ b) : IntKind.i64.wrap (((a : Int) + b - 1).tdiv b) = (((a + b - 1) / b : Nat) : Int) := by
  have e : ((a : Int) + b - 1) = ((a + b - 1 : Nat) : Int) := by omega
  rw [e, ← Int.ofNat_tdiv]
  have := Nat.div_le_self (a + b - 1) b
  generalize (a + b - 1) / b = q at this ⊢
  exact IntWalk.i64_in _ (by omega)
def nP (w : ByteArray) (sz : Nat) : Nat := max 1 ((w.size + sz - 1) / sz)
theorem nP_pos (w : ByteArray) (sz : Nat) : 1 ≤ nP w sz := by unfold nP; omega
theorem nP_cases (w : ByteArray) (sz : Nat) : (nP w sz = 1 ∧ (w.size + sz - 1) / sz ≤ 1) ∨ (nP w sz = (w.size + sz - 1) / sz ∧ 1 ≤ (w.size + sz - 1) / sz) := by unfold nP; omega
theorem tmod_small {n : Int} (h : 0 ≤ n ∧ n ≤ 255) : n.tmod 256 = n := Int.tmod_eq_of_lt h.1 (by omega)
theorem nP_le {w : ByteArray} {sz : Nat} (hw : w.size ≤ 220) (hs : 20 ≤ sz) : (w.size + sz - 1) / sz ≤ 15 := by
  have : (w.size + sz - 1) / sz < 16 := (Nat.div_lt_iff_lt_mul (by omega)).2 (by omega)
  omega
theorem nP_le' {w : ByteArray} {sz : Nat} (hw : w.size ≤ 220) (hs : 20 ≤ sz) : nP w sz ≤ 15 := by
  have := nP_le hw hs; unfold nP; omega
theorem pc_le {w : ByteArray} {sz i : Nat} (hi : i < nP w sz) (hs : 0 < sz) : i * sz ≤ w.size := by
  rcases Nat.eq_zero_or_pos i with h | h
  · subst h; simp
  · have h1 : i + 1 ≤ (w.size + sz - 1) / sz := by unfold nP at hi; omega
    have h2 := (Nat.le_div_iff_mul_le hs).1 h1
    rw [Nat.add_mul] at h2; omega
theorem pc_end (w : ByteArray) {sz : Nat} (hs : 0 < sz) : w.size ≤ nP w sz * sz := by
  have h1 := Nat.div_add_mod (w.size + sz - 1) sz
  have h2 := Nat.mod_lt (w.size + sz - 1) hs
  have h3 : (w.size + sz - 1) / sz * sz ≤ nP w sz * sz := Nat.mul_le_mul_right _ (by unfold nP; omega)
  rw [Nat.mul_comm] at h1
  omega
def chunk (w : ByteArray) (sz j : Nat) : ByteArray := w.extract (j * sz) (min ((j + 1) * sz) w.size)
theorem chunk_size (w : ByteArray) (sz j : Nat) : (chunk w sz j).size ≤ sz := by
  unfold chunk; rw [ByteArray.size_extract, Nat.add_mul]; omega
def piece (id : Int) (w : ByteArray) (sz n j : Nat) : ByteArray := bstr [id] ++ bstr [(j : Int)] ++ bstr [(n : Int)] ++ chunk w sz j
def pcs (id : Int) (w : ByteArray) (sz i : Nat) : List ByteArray := (List.range i).map (piece id w sz (nP w sz))
theorem pcs_len (id : Int) (w : ByteArray) (sz i : Nat) : (pcs id w sz i).length = i := by simp [pcs]
theorem pcs_get {id : Int} {w : ByteArray} {sz i j : Nat} (h : j < (pcs id w sz i).length) : (pcs id w sz i)[j] = piece id w sz (nP w sz) j := by simp [pcs]
theorem pcs_next {id : Int} {w : ByteArray} {sz i l h : Nat} (hl : l = i * sz) (hh : h = min ((i + 1) * sz) w.size) :
    ((clo ((pcs id w sz i).map strC)).drop 0).take i ++ [[X.c (.val (.string (bstr [id] ++ bstr [(i : Int)] ++ bstr [(nP w sz : Int)] ++ w.extract l h)))]] = clo ((pcs id w sz (i + 1)).map strC) := by
  subst hl; subst hh
  have hlen : (clo ((pcs id w sz i).map strC)).length = i := by simp [clo, pcs_len]
  rw [List.drop_zero, List.take_of_length_le (by omega)]
  simp [pcs, clo, strC, List.range_succ, piece, chunk]
theorem pcs_sz (id : Int) (w : ByteArray) (sz i : Nat) : ∀ s, s ∈ pcs id w sz i → s.size ≤ 3 + sz := by
  intro s hs
  obtain ⟨j, _, rfl⟩ := List.mem_map.1 hs
  have := chunk_size w sz j
  simp only [piece, ByteArray.size_append, bstr_size1]; omega
theorem bstr1 (n : Int) : (bstr [n]).data.toList = [UInt8.ofNat n.toNat] := rfl
theorem piece_data (id : Int) (w : ByteArray) (sz n j : Nat) : (piece id w sz n j).data.toList = UInt8.ofNat id.toNat :: UInt8.ofNat j :: UInt8.ofNat n :: (chunk w sz j).data.toList := by
  unfold piece
  simp only [ByteArray.data_append, Array.toList_append, bstr1, Int.toNat_natCast]
  rfl
theorem piece_0 {id : Int} (h : 0 ≤ id ∧ id ≤ 255) (w : ByteArray) (sz n j : Nat) : (byteAt (piece id w sz n j) 0 : Int) = id := by
  unfold byteAt; rw [piece_data]
  show ((UInt8.ofNat id.toNat).toNat : Int) = id
  rw [UInt8.toNat_ofNat']; omega
theorem piece_1 (id : Int) (w : ByteArray) (sz n : Nat) {j : Nat} (h : j ≤ 255) : byteAt (piece id w sz n j) 1 = j := by
  unfold byteAt; rw [piece_data]
  show (UInt8.ofNat j).toNat = j
  rw [UInt8.toNat_ofNat']; omega
theorem piece_2 (id : Int) (w : ByteArray) (sz : Nat) {n : Nat} (j : Nat) (h : n ≤ 255) : byteAt (piece id w sz n j) 2 = n := by
  unfold byteAt; rw [piece_data]
  show (UInt8.ofNat n).toNat = n
  rw [UInt8.toNat_ofNat']; omega
theorem piece_part (id : Int) (w : ByteArray) (sz n j : Nat) : part (piece id w sz n j) = chunk w sz j := by
  unfold part piece
  refine ByteArray.extract_append_eq_right ?_ ?_
  · simp only [ByteArray.size_append, bstr_size1]
  · simp only [ByteArray.size_append, bstr_size1]
theorem piece_ok {id : Int} {w : ByteArray} {sz n j : Nat} (hj : j < n) (hn : n ≤ 15) : rpOk (piece id w sz n j) = true := by
  unfold rpOk
  rw [piece_1 id w sz n (by omega), piece_2 id w sz j (by omega)]
  simp only [Bool.and_eq_true, decide_eq_true_eq]
  exact ⟨by simp only [piece, ByteArray.size_append, bstr_size1]; omega, within_t (by omega) (by omega), hj⟩
/-- the turn at which the piece j comes -/
def kOf (off n j : Nat) : Nat := (j + (n - off % n)) % n
theorem kOf_at {off n i : Nat} (h : i < n) : kOf off n ((i + off) % n) = i := by
  have hr := Nat.mod_lt off (by omega : 0 < n)
  unfold kOf
  have e : (i + off) % n = (i + off % n) % n := by rw [Nat.add_mod, Nat.mod_eq_of_lt h]
  rw [e, mod2 (x := i + off % n) (by omega)]
  split
  · rw [mod2 (by omega)]; split <;> omega
  · rw [mod2 (by omega)]; split <;> omega
theorem kOf_inj {off n i j : Nat} (hj : j < n) (h : kOf off n j = i) : j = (i + off) % n := by
  have hr := Nat.mod_lt off (by omega : 0 < n)
  have hi : i < n := by rw [← h]; exact Nat.mod_lt _ (by omega)
  unfold kOf at h
  have e : (i + off) % n = (i + off % n) % n := by rw [Nat.add_mod, Nat.mod_eq_of_lt hi]
  rw [e, mod2 (x := i + off % n) (by omega)]
  rw [mod2 (x := j + (n - off % n)) (by omega)] at h
  split <;> split at h <;> omega
theorem kOf_lt {off n j : Nat} (h : 0 < n) : kOf off n j < n := Nat.mod_lt _ h
def xAt (id : Int) (w : ByteArray) (sz n off i : Nat) : Held :=
  ⟨4, id, n, (List.range n).map (fun j => if kOf off n j < i then chunk w sz j else ⟨#[]⟩), (List.range n).map (fun j => decide (kOf off n j < i)), 13⟩
def shAt (id : Int) (w : ByteArray) (sz n off i : Nat) : List Held := if i = 0 ∨ n ≤ i then [] else [xAt id w sz n off i]
section
variable {id : Int} {w : ByteArray} {sz n off : Nat}
theorem xAt_put {i : Nat} (hi : i < n) : putPart (xAt id w sz n off i) ((i + off) % n) (chunk w sz ((i + off) % n)) = xAt id w sz n off (i + 1) := by
  have hj : (i + off) % n < n := Nat.mod_lt _ (by omega)
  have hk := kOf_at (off := off) hi
  rw [put_f (by simpa [xAt] using hj) (by simp [xAt, hk])]
  unfold xAt
  congr 1
  · refine List.ext_getElem (by simp) fun j h1 h2 => ?_
    simp only [List.length_set, List.length_map, List.length_range] at h1
    rw [List.getElem_set]
    split
    · rename_i e; subst e; simp [hk]
    · rename_i e
      have : kOf off n j ≠ i := fun h => e (kOf_inj h1 h).symm
      simp only [List.getElem_map, List.getElem_range]
      by_cases h : kOf off n j < i
      · rw [if_pos h, if_pos (by omega)]
      · rw [if_neg h, if_neg (by omega)]
  · refine List.ext_getElem (by simp) fun j h1 h2 => ?_
    simp only [List.length_set, List.length_map, List.length_range] at h1
    rw [List.getElem_set]
    split
    · rename_i e; subst e; simp [hk]
    · rename_i e
      have : kOf off n j ≠ i := fun h => e (kOf_inj h1 h).symm
      simp only [List.getElem_map, List.getElem_range]
      exact decide_eq_decide.2 (by omega)
theorem xAt_zero {j : Nat} (hid : 0 ≤ id ∧ id ≤ 255) (hn : n ≤ 15) : fresh 4 (piece id w sz n j) 5 = xAt id w sz n off 0 := by
  unfold fresh xAt
  rw [piece_0 hid, piece_2 id w sz j (by omega)]
  congr 1
  · refine List.ext_getElem (by simp) fun j h1 h2 => by simp
  · refine List.ext_getElem (by simp) fun j h1 h2 => by simp
theorem xAt_all {i : Nat} (h : n ≤ i) (hn : 0 < n) : (xAt id w sz n off i).hav.all _root_.id = true ∧ (xAt id w sz n off i).parts = (List.range n).map (chunk w sz) := by
  constructor
  · simp only [xAt, List.all_map, List.all_eq_true, List.mem_range]
    intro j hj
    have := kOf_lt (off := off) (j := j) hn
    simp; omega
  · unfold xAt
    refine List.map_congr_left fun j _ => if_pos ?_
    have := kOf_lt (off := off) (j := j) hn
    omega
end
theorem catS_chunks (w : ByteArray) {sz : Nat} (hs : 0 < sz) : ∀ i, i ≤ nP w sz → catS ((List.range i).map (chunk w sz)) = w.extract 0 (min (i * sz) w.size) := by
  intro i
  induction i with
  | zero => intro _; simp [catS_nil]; rfl
  | succ i ih =>
    intro hi
    rw [List.range_succ, List.map_append, List.map_singleton, catS_snoc, ih (by omega)]
    have h1 := pc_le (w := w) (sz := sz) (i := i) (by omega) hs
    unfold chunk
    rw [Nat.min_eq_left h1, ByteArray.extract_append_extract]
    rw [Nat.add_mul, Nat.one_mul, Nat.max_eq_right (by omega), Nat.zero_min]
theorem catS_all (w : ByteArray) {sz : Nat} (hs : 0 < sz) : catS ((List.range (nP w sz)).map (chunk w sz)) = w := by
  rw [catS_chunks w hs _ (Nat.le_refl _), Nat.min_eq_right (pc_end w hs)]
  exact ByteArray.extract_zero_size
section
variable {id : Int} {w : ByteArray} {sz off : Nat}
theorem step_law (hid : 0 ≤ id ∧ id ≤ 255) (hs : 20 ≤ sz ∧ sz ≤ 120) (hw : w.size ≤ 220) {i : Nat} (hi : i < nP w sz) (g : ShelfGood (shAt id w sz (nP w sz) off i)) :
    addP (shAt id w sz (nP w sz) off i) 4 (piece id w sz (nP w sz) ((i + off) % nP w sz)) 5 =
      (shAt id w sz (nP w sz) off (i + 1), if i + 1 = nP w sz then w else ⟨#[]⟩, decide (i + 1 = nP w sz)) := by
  have hn := nP_le' hw hs.1
  have hall := catS_all w (sz := sz) (by omega)
  generalize hN : nP w sz = n at *
  have hjn : (i + off) % n < n := Nat.mod_lt _ (by omega)
  generalize hj : (i + off) % n = j at *
  have hr := piece_ok (id := id) (w := w) (sz := sz) hjn hn
  have b0 := piece_0 hid w sz n j
  have b1 := piece_1 id w sz n (j := j) (by omega)
  have b2 := piece_2 id w sz (n := n) j (by omega)
  have hpart := piece_part id w sz n j
  have hput := xAt_put (id := id) (w := w) (sz := sz) (off := off) hi
  rw [hj] at hput
  have hcs := chunk_size w sz j
  have hfr := xAt_zero (w := w) (sz := sz) (n := n) (off := off) (j := j) hid hn
  generalize piece id w sz n j = t at *
  have hok : addOk (shAt id w sz n off i) 4 t 5 = true := addOk_t (decide_eq_true g) (within_t (by omega) (by omega)) hr (by rw [hpart]; omega) (within_t (by omega) (by omega))
  by_cases h1 : n = 1
  · have hi0 : i = 0 := by omega
    subst h1; subst hi0
    rw [addP_one hok (by omega), hpart]
    have hw1 : chunk w sz j = w := by
      have : j = 0 := by omega
      subst this
      have e : catS ([] ++ [chunk w sz 0]) = w := hall
      rw [catS_snoc, catS_nil] at e
      have e2 : (⟨#[]⟩ : ByteArray) ++ chunk w sz 0 = chunk w sz 0 := ByteArray.empty_append
      rw [e2] at e; exact e
    rw [hw1]; simp [shAt]
  · have hb1 : byteAt t 2 ≠ 1 := by omega
    rcases Nat.eq_zero_or_pos i with h0 | h0
    · subst h0
      have e0 : shAt id w sz n off 0 = [] := by simp [shAt]
      have e1 : shAt id w sz n off (0 + 1) = [xAt id w sz n off (0 + 1)] := by unfold shAt; rw [if_neg (by omega)]
      rw [e0] at hok ⊢
      rw [e1, addP_new hok hb1 (fun hil => absurd hil (by simp)), hpart, hfr, b1, hput, if_neg (by omega), decide_eq_false (by omega)]
      rfl
    · have e0 : shAt id w sz n off i = [xAt id w sz n off i] := by unfold shAt; rw [if_neg (by omega)]
      rw [e0] at hok g ⊢
      have hk : kIdx [xAt id w sz n off i] 4 t = 0 := kIdx_is g (i := 0) (by simp) (sameK_t rfl b0.symm)
      have hc : ([xAt id w sz n off i][0]'(by simp)).cnt = byteAt t 2 := by simp only [List.getElem_cons_zero]; rw [b2]; rfl
      have hy : putPart ([xAt id w sz n off i][0]'(by simp)) (byteAt t 1) (part t) = xAt id w sz n off (i + 1) := by rw [b1, hpart]; exact hput
      by_cases he : i + 1 = n
      · have hxa := xAt_all (id := id) (w := w) (sz := sz) (n := n) (off := off) (i := i + 1) (by omega) (by omega)
        rw [addP_full hok hb1 hk (by simp) hc hy hxa.1, hxa.2, hall, if_pos he, decide_eq_true he]
        unfold shAt; rw [if_pos (.inr (by omega))]; rfl
      · have hf : (xAt id w sz n off (i + 1)).hav.all _root_.id = false := by
          have hq : (n - 1 + off) % n < n := Nat.mod_lt _ (by omega)
          refine all_f (i := (n - 1 + off) % n) (by simpa [xAt] using hq) ?_
          simp only [xAt, List.getElem_map, List.getElem_range]
          rw [kOf_at (by omega)]; exact decide_eq_false (by omega)
        rw [addP_set hok hb1 hk (by simp) hc hy hf, if_neg he, decide_eq_false he]
        unfold shAt; rw [if_neg (by omega)]; rfl
theorem step_good (hid : 0 ≤ id ∧ id ≤ 255) (hs : 20 ≤ sz ∧ sz ≤ 120) (hw : w.size ≤ 220) : ∀ i, i ≤ nP w sz → ShelfGood (shAt id w sz (nP w sz) off i) := by
  intro i
  induction i with
  | zero => intro _; simp only [shAt, true_or, if_true]; exact good_nil
  | succ i ih =>
    intro hi
    have g := ih (by omega)
    have := step_law (off := off) hid hs hw (i := i) (by omega) g
    have g2 := addP_good (fr := 4) (t := piece id w sz (nP w sz) ((i + off) % nP w sz)) (now := 5) g
    rw [this] at g2; exact g2
end
end Go.Vm.S
namespace Go.Vm.S
open Go Go.Vm
theorem szHelds_erase (l : List Held) (k : Nat) : szHelds (l.eraseIdx k) ≤ szHelds l := by
  induction l generalizing k with
  | nil => simp
  | cons a r ih =>
    cases k with
    | zero => simp only [List.eraseIdx_cons_zero]; unfold szHelds sumOf; simp only [List.map_cons, List.sum_cons, List.length_cons]; omega
    | succ k =>
      have := ih k
      unfold szHelds sumOf at *
      simp only [List.eraseIdx_cons_succ, List.map_cons, List.sum_cons, List.length_cons] at *; omega
theorem putPart_len (x : Held) (p : Nat) (s : ByteArray) : (putPart x p s).hav.length = x.hav.length ∧ (putPart x p s).parts.length = x.parts.length := by
  have h := put_len x p s
  exact ⟨h.2, h.1⟩
theorem addP_sz {l : List Held} {fr : Int} {t : ByteArray} {now : Int} (hb : szHelds l ≤ 1048576) : szHelds (addP l fr t now).1 ≤ 2097152 := by
  rcases Bool.eq_false_or_eq_true (addOk l fr t now) with h | h
  · by_cases h1 : byteAt t 2 = 1
    · rw [addP_one h h1]; show szHelds l ≤ _; omega
    · have hh := h
      unfold addOk at hh
      simp only [Bool.and_eq_true, decide_eq_true_eq] at hh
      obtain ⟨hsb, hfr, hr, hp, hw⟩ := hh
      have hsg : ShelfGood l := of_decide_eq_true hsb
      have hrl := rp_parts hr
      have hl := hsg.len
      have hgood := sz_good hsg
      have hnew : szHeld (putPart (fresh fr t now) (byteAt t 1) (part t)) ≤ 2000 := by
        have hF := XP_len hsg (x := fresh fr t now) (at1 := -1) (now := now) (fr := fr) (t := t)
        refine sz_held ?_ ?_ ?_
        · rw [(putPart_len _ _ _).2]; simp [fresh]; omega
        · rw [(putPart_len _ _ _).1]; simp [fresh]; omega
        · have h9 := sum120 (putPart (fresh fr t now) (byteAt t 1) (part t)).parts (fun y hy => by
            unfold putPart at hy
            split at hy
            · rw [List.eq_of_mem_replicate hy]; decide
            · rcases List.mem_or_eq_of_mem_set hy with h | h
              · rw [List.eq_of_mem_replicate h]; decide
              · rw [h]; exact hp)
          rw [(put_len _ _ _).1] at h9
          simp only [fresh, List.length_replicate] at h9
          simp only [fresh]; omega
      generalize hk : kIdx l fr t = k at *
      have hN : (∀ (hil : k < l.length), l[k].cnt ≠ byteAt t 2) → szHelds (addP l fr t now).1 ≤ 2097152 := fun hc => by
        subst hk
        rw [addP_new h h1 hc]
        have hz := sz_small (new_sz (r := l.eraseIdx (kIdx l fr t)) (fun z hz => hgood z (List.mem_of_mem_eraseIdx hz)) hnew)
        have h8 := new_len (l.eraseIdx (kIdx l fr t)) (putPart (fresh fr t now) (byteAt t 1) (part t))
        have h7 := List.length_eraseIdx_le l (kIdx l fr t)
        show szHelds (three _ ++ _) ≤ _
        omega
      rcases Nat.lt_or_ge k l.length with hil | hil
      · by_cases hcc : l[k].cnt = byteAt t 2
        · generalize hy : putPart l[k] (byteAt t 1) (part t) = y at *
          rcases Bool.eq_false_or_eq_true (y.hav.all id) with hf | hf
          · rw [addP_full h h1 hk hil hcc hy hf]; have := szHelds_erase l k; show szHelds (l.eraseIdx _) ≤ _; omega
          · rw [addP_set h h1 hk hil hcc hy hf]
            have hg := (hsg.rows _ hil hil).1
            have hcw := within_of hg.cnt
            have hy : szHeld y ≤ 2000 := by
              have h3 := hg.parts; have h4 := hg.hav
              subst hy
              exact sz_held (by rw [(putPart_len _ _ _).2]; omega) (by rw [(putPart_len _ _ _).1]; omega) (sz_put hg _ hp)
            have hz := sz_small (l := l.set k y) (fun z hz => by
              rcases List.mem_or_eq_of_mem_set hz with hm | hm
              · exact hgood z hm
              · rw [hm]; exact hy)
            rw [List.length_set] at hz
            show szHelds (l.set _ _) ≤ _
            omega
        · exact hN fun _ => hcc
      · exact hN fun hi => absurd hi (by omega)
  · rw [addP_bad h]; show szHelds l ≤ _; omega
end Go.Vm.S
namespace Go.Vm.S
open Go Go.Vm

def stA (d : Dr) : Int × Dr := dBelow d 3
def stB (d : Dr) : ByteArray × Dr := dLong (stA d).2
def stC (d : Dr) : Int × Dr := dBelow (stB d).2 20
def stZ (d : Dr) : Nat := (20 + (stC d).1).toNat
def stN (d : Dr) : Nat := nP (stB d).1 (stZ d)
def stE (d : Dr) : Int × Dr := dBelow (stC d).2 2
def stF (d : Dr) : Int × Dr := dBelow (stE d).2 (stN d)
def stJ (d : Dr) : Nat := (stF d).1.toNat
def stG (d : Dr) : Int × Dr := dBelow (stF d).2 20
theorem stA_in (d : Dr) : 0 ≤ (stA d).1 ∧ (stA d).1 ≤ 255 := by have := dBelow_lt d (n := 3) (by omega); unfold stA; omega
theorem stB_le (d : Dr) : (stB d).1.size ≤ 208 := dLong_size _
theorem stZ_eq (d : Dr) : 20 + (stC d).1 = (stZ d : Nat) ∧ 20 ≤ stZ d ∧ stZ d ≤ 39 := by
  have := dBelow_lt (stB d).2 (n := 20) (by omega)
  unfold stZ stC; omega
theorem stN_in (d : Dr) : 1 ≤ stN d ∧ stN d ≤ 15 := ⟨nP_pos _ _, nP_le' (by have := stB_le d; omega) (stZ_eq d).2.1⟩
theorem stJ_eq (d : Dr) : (stF d).1 = (stJ d : Nat) ∧ stJ d < stN d := by
  have h1 := stN_in d
  have := dBelow_lt (stE d).2 (n := stN d) (by omega)
  unfold stJ stF; omega
noncomputable def shStep (d : Dr) (l : List Held) : List Held × Dr :=
  ((addP l (1 + (stE d).1) (piece (stA d).1 (stB d).1 (stZ d) (stN d) (stJ d)) (stG d).1).1, (stG d).2)
noncomputable def shRun : Nat → Nat → Dr → List Held → List Held × Dr
  | 0, _, d, l => (l, d)
  | f + 1, i, d, l => if (i : Int) < (dBelow d 9).1 then shRun f (i + 1) (shStep (dBelow d 9).2 l).2 (shStep (dBelow d 9).2 l).1 else (l, (dBelow d 9).2)
noncomputable def drShelf (d : Dr) : List Held × Dr := shRun 10 0 d []
theorem shRun_go {d d' : Dr} {l : List Held} {i : Nat} {r : List Held × Dr} (hi : i < 9) (hlt : (i : Int) < (dBelow d 9).1) (h : shRun (10 - i) i d l = r) (hd : d' = (dBelow d 9).2) :
    shRun (10 - (i + 1)) (i + 1) (shStep d' l).2 (shStep d' l).1 = r := by
  subst hd
  rw [show 10 - i = (10 - (i + 1)) + 1 by omega, shRun, if_pos hlt] at h
  exact h
theorem shRun_end {d : Dr} {l : List Held} {i : Nat} {r : List Held × Dr} (hi : i ≤ 9) (hlt : ¬ (i : Int) < (dBelow d 9).1) (h : shRun (10 - i) i d l = r) : r = (l, (dBelow d 9).2) := by
  rw [show 10 - i = (9 - i) + 1 by omega, shRun, if_neg hlt] at h
  exact h.symm
theorem shRun_good : ∀ (f i : Nat) (d : Dr) (l : List Held), ShelfGood l → ShelfGood (shRun f i d l).1
  | 0, _, _, _, g => g
  | f + 1, i, d, l, g => by
    rw [shRun]
    split
    · exact shRun_good f _ _ _ (addP_good g)
    · exact g
theorem drShelf_good (d : Dr) : ShelfGood (drShelf d).1 := shRun_good _ _ _ _ good_nil
noncomputable def dsD (bs : List Int) (hb : bs.length ≤ 1048576) : Dr := (drShelf (dNew bs hb)).2
noncomputable def dsL (bs : List Int) (hb : bs.length ≤ 1048576) : List Held := (drShelf (dNew bs hb)).1
noncomputable def dsJ (bs : List Int) (hb : bs.length ≤ 1048576) : Nat := (dBelow (stC (dsD bs hb)).2 (stN (dsD bs hb))).1.toNat
theorem dsJ_eq (bs : List Int) (hb : bs.length ≤ 1048576) : (dBelow (stC (dsD bs hb)).2 (stN (dsD bs hb))).1 = (dsJ bs hb : Nat) ∧ dsJ bs hb < stN (dsD bs hb) := by
  have h1 := stN_in (dsD bs hb)
  have := dBelow_lt (stC (dsD bs hb)).2 (n := stN (dsD bs hb)) (by omega)
  unfold dsJ; omega
noncomputable def dsT (bs : List Int) (hb : bs.length ≤ 1048576) : ByteArray := piece (stA (dsD bs hb)).1 (stB (dsD bs hb)).1 (stZ (dsD bs hb)) (stN (dsD bs hb)) (dsJ bs hb)
noncomputable def dsNow (bs : List Int) (hb : bs.length ≤ 1048576) : Int := (dBelow (dBelow (stC (dsD bs hb)).2 (stN (dsD bs hb))).2 30).1
theorem dsNow_in (bs : List Int) (hb : bs.length ≤ 1048576) : 0 ≤ dsNow bs hb ∧ dsNow bs hb < 30 := dBelow_lt _ (by omega)
theorem dsL_good (bs : List Int) (hb : bs.length ≤ 1048576) : ShelfGood (dsL bs hb) := drShelf_good _
theorem kept_til {now : Int} {l : List Held} {i : Nat} (h : i < (kept now l).length) : now < (kept now l)[i].til := by
  have := List.getElem_mem h
  unfold kept at this
  rw [List.mem_filter] at this
  exact of_decide_eq_true this.2
theorem pcs_at {id : Int} {w : ByteArray} {sz n i : Nat} (h : i < n) : (clo ((pcs id w sz n).map strC))[i]? = some ((strC (piece id w sz (nP w sz) i)).map X.c) := by
  rw [clo_get (by rw [pcs_len]; exact h), pcs_get]
theorem good_sz {l : List Held} (g : ShelfGood l) : szHelds l ≤ 10000 := by
  have h1 := sz_small (sz_good g); have h2 := g.len; omega
end Go.Vm.S
namespace Go.Vm.S
open Go Go.Vm
set_option maxRecDepth 100000
set_option linter.unusedVariables false
set_option maxHeartbeats 4000000
theorem at32 : FnAt Pg 32 Go.Proofs.Try.f32 := ⟨by kernel_rfl, rfl, by decide⟩
theorem c_spec_l01Byte (d : Dr) :
    Ctr Pg ty 32 [.one (.ptr 0 0 0)] [drN d] (Gives (vv (.int .i64 (dByte d).1)) [] [drN (dByte d).2]) := by
  refine ctr at32 rfl (nsK_gives rfl trivial ⟨drN_ns _, trivial⟩) (Nat.le_of_ble_eq_true rfl) fun w0 S0 L0 Z => ?_
  refine vc_seq fun K1 hK1 => ?_
  refine vc_region ?_
  refine vl_q (q_assign rfl) (dk rfl) ?_
  refine vl_nil ?_
  refine hK1 _ ?_
  refine vc_seq fun K2 hK2 => ?_
  refine vc_region ?_
  refine vl_q (q_move rfl) (dk rfl) ?_
  refine vl_q (q_move rfl) (dk rfl) ?_
  refine vl_q (q_nilCheck rfl rfl) (dk rfl) ?_
  refine vl_q (q_fieldAddr 2 rfl rfl rfl rfl (by decide) rfl rfl) (dk rfl) ?_
  refine vl_load rfl rfl rfl rfl rfl rfl rfl (by decide) (dk rfl) ?_
  refine vl_q (q_mul rfl rfl rfl) (dk rfl) ?_
  refine vl_q (q_add rfl rfl rfl) (dk rfl) ?_
  refine vl_q (q_nilCheck rfl rfl) (dk rfl) ?_
  refine vl_q (q_fieldAddr 2 rfl rfl rfl rfl (by decide) rfl rfl) (dk rfl) ?_
  refine vl_store rfl rfl rfl rfl rfl rfl (Nat.le_of_ble_eq_true rfl) trivial ?_
  refine vl_nil ?_
  refine hK2 _ ?_
  refine vc_seq fun K3 hK3 => ?_
  refine vc_region_any mixed (fun n => Nat.beq n 0) true rfl rfl (fun _ hU4 => hU4) fun w1 S1 L1 Z1 H1 => ?_
  refine va_q 0 rfl (by kernel_rfl) (by kernel_rfl) (by kernel_rfl) (q_move rfl) (dk rfl) ?_
  refine va_q 1 rfl (by kernel_rfl) (by kernel_rfl) (by kernel_rfl) (q_nilCheck rfl rfl) (dk rfl) ?_
  refine va_q 2 rfl (by kernel_rfl) (by kernel_rfl) (by kernel_rfl) (q_fieldAddr 2 rfl rfl rfl rfl (by decide) rfl rfl) (dk rfl) ?_
  refine va_q 3 rfl (by kernel_rfl) (by kernel_rfl) (by kernel_rfl) (q_load rfl rfl rfl rfl rfl rfl rfl (by decide)) (dk rfl) ?_
  refine va_q 4 rfl (by kernel_rfl) (by kernel_rfl) (by kernel_rfl) (q_shr rfl rfl (by decide) rfl) (dk rfl) ?_
  refine va_q 5 rfl (by kernel_rfl) (by kernel_rfl) (by kernel_rfl) (q_move rfl) (dk rfl) ?_
  refine va_q 6 rfl (by kernel_rfl) (by kernel_rfl) (by kernel_rfl) (q_nilCheck rfl rfl) (dk rfl) ?_
  refine va_q 7 rfl (by kernel_rfl) (by kernel_rfl) (by kernel_rfl) (q_fieldAddr 2 rfl rfl rfl rfl (by decide) rfl rfl) (dk rfl) ?_
  refine va_q 8 rfl (by kernel_rfl) (by kernel_rfl) (by kernel_rfl) (q_load rfl rfl rfl rfl rfl rfl rfl (by decide)) (dk rfl) ?_
  refine va_q 9 rfl (by kernel_rfl) (by kernel_rfl) (by kernel_rfl) (q_shr rfl rfl (by decide) rfl) (dk rfl) ?_
  refine va_q 10 rfl (by kernel_rfl) (by kernel_rfl) (by kernel_rfl) (q_bit rfl rfl rfl rfl) (dk rfl) ?_
  refine va_q 11 rfl (by kernel_rfl) (by kernel_rfl) (by kernel_rfl) (q_bit rfl rfl rfl rfl) (dk rfl) ?_
  refine va_q 12 rfl (by kernel_rfl) (by kernel_rfl) (by kernel_rfl) (q_assign rfl) (dk rfl) ?_
  refine va_done (by kernel_rfl) ?_
  refine hK3 _ ?_
  refine vc_seq fun K5 hK5 => ?_
  refine vc_seq fun K6 hK6 => ?_
  refine vc_region_any mixed (fun n => Nat.beq n 0) true rfl rfl (fun _ hU7 => hU7) fun w1 S1 L1 Z1 H1 => ?_
  refine va_q 0 rfl (by kernel_rfl) (by kernel_rfl) (by kernel_rfl) (q_move rfl) (dk rfl) ?_
  refine va_q 1 rfl (by kernel_rfl) (by kernel_rfl) (by kernel_rfl) (q_nilCheck rfl rfl) (dk rfl) ?_
  refine va_q 2 rfl (by kernel_rfl) (by kernel_rfl) (by kernel_rfl) (q_fieldAddr 1 rfl rfl rfl rfl (by decide) rfl rfl) (dk rfl) ?_
  refine va_q 3 rfl (by kernel_rfl) (by kernel_rfl) (by kernel_rfl) (q_load rfl rfl rfl rfl rfl rfl rfl (by decide)) (dk rfl) ?_
  refine va_q 4 rfl (by kernel_rfl) (by kernel_rfl) (by kernel_rfl) (q_move rfl) (dk rfl) ?_
  refine va_q 5 rfl (by kernel_rfl) (by kernel_rfl) (by kernel_rfl) (q_nilCheck rfl rfl) (dk rfl) ?_
  refine va_q 6 rfl (by kernel_rfl) (by kernel_rfl) (by kernel_rfl) (q_fieldAddr 0 rfl rfl rfl rfl (by decide) rfl rfl) (dk rfl) ?_
  refine va_q 7 rfl (by kernel_rfl) (by kernel_rfl) (by kernel_rfl) (q_load rfl rfl rfl rfl rfl rfl rfl (by decide)) (dk rfl) ?_
  refine va_q 8 rfl (by kernel_rfl) (by kernel_rfl) (by kernel_rfl) (q_len_fz rfl rfl rfl) (dk rfl) ?_
  refine va_two 9 (x := fun b => vv (.bool b)) _ rfl (by kernel_rfl) (by kernel_rfl) (by kernel_rfl) (q_cmp rfl rfl rfl rfl) (dk rfl) (fun h34 => ?_) (fun h34 => ?_)
  · replace h34 := lss_of h34
    simp only [List.length_map] at h34
    have hp : d.pos < d.bs.length := by omega
    have hok := d.ok
    refine va_done (by kernel_rfl) ?_
    refine hK6 _ ?_
    refine vc_cond_true rfl ?_
    refine vc_seq fun K8 hK8 => ?_
    refine vc_region_any mixed (fun n => Nat.beq n 0) true rfl rfl (fun _ hU9 => hU9) fun w1 S1 L1 Z1 H1 => ?_
    refine va_q 0 rfl (by kernel_rfl) (by kernel_rfl) (by kernel_rfl) (q_move rfl) (dk rfl) ?_
    refine va_q 1 rfl (by kernel_rfl) (by kernel_rfl) (by kernel_rfl) (q_move rfl) (dk rfl) ?_
    refine va_q 2 rfl (by kernel_rfl) (by kernel_rfl) (by kernel_rfl) (q_nilCheck rfl rfl) (dk rfl) ?_
    refine va_q 3 rfl (by kernel_rfl) (by kernel_rfl) (by kernel_rfl) (q_fieldAddr 0 rfl rfl rfl rfl (by decide) rfl rfl) (dk rfl) ?_
    refine va_q 4 rfl (by kernel_rfl) (by kernel_rfl) (by kernel_rfl) (q_load rfl rfl rfl rfl rfl rfl rfl (by decide)) (dk rfl) ?_
    refine va_q 5 rfl (by kernel_rfl) (by kernel_rfl) (by kernel_rfl) (q_move rfl) (dk rfl) ?_
    refine va_q 6 rfl (by kernel_rfl) (by kernel_rfl) (by kernel_rfl) (q_nilCheck rfl rfl) (dk rfl) ?_
    refine va_q 7 rfl (by kernel_rfl) (by kernel_rfl) (by kernel_rfl) (q_fieldAddr 1 rfl rfl rfl rfl (by decide) rfl rfl) (dk rfl) ?_
    refine va_q 8 rfl (by kernel_rfl) (by kernel_rfl) (by kernel_rfl) (q_load rfl rfl rfl rfl rfl rfl rfl (by decide)) (dk rfl) ?_
    refine va_q 9 rfl (by kernel_rfl) (by kernel_rfl) (by kernel_rfl) (q_indexAddr_fz rfl rfl rfl rfl rfl rfl (by decide) (by omega) (get_map (by omega))) (dk rfl) ?_
    refine va_q 10 rfl (by kernel_rfl) (by kernel_rfl) (by kernel_rfl) (q_load_sp rfl rfl rfl rfl rfl (by decide)) (dk rfl) ?_
    refine va_q 11 rfl (by kernel_rfl) (by kernel_rfl) (by kernel_rfl) (q_convInt rfl rfl rfl rfl rfl) (dk rfl) ?_
    refine va_q 12 rfl (by kernel_rfl) (by kernel_rfl) (by kernel_rfl) (q_add rfl rfl rfl) (dk rfl) ?_
    refine va_q 13 rfl (by kernel_rfl) (by kernel_rfl) (by kernel_rfl) (q_bit rfl rfl rfl rfl) (dk rfl) ?_
    refine va_q 14 rfl (by kernel_rfl) (by kernel_rfl) (by kernel_rfl) (q_assign rfl) (dk rfl) ?_
    refine va_done (by kernel_rfl) ?_
    refine hK8 _ ?_
    refine vc_region ?_
    refine vl_q (q_move rfl) (dk rfl) ?_
    refine vl_q (q_move rfl) (dk rfl) ?_
    refine vl_q (q_nilCheck rfl rfl) (dk rfl) ?_
    refine vl_q (q_fieldAddr 1 rfl rfl rfl rfl (by decide) rfl rfl) (dk rfl) ?_
    refine vl_load rfl rfl rfl rfl rfl rfl rfl (by decide) (dk rfl) ?_
    refine vl_q (q_add rfl rfl (IntWalk.i64_in _ (by omega))) (dk rfl) ?_
    refine vl_q (q_nilCheck rfl rfl) (dk rfl) ?_
    refine vl_q (q_fieldAddr 1 rfl rfl rfl rfl (by decide) rfl rfl) (dk rfl) ?_
    refine vl_store rfl rfl rfl rfl rfl rfl (Nat.le_of_ble_eq_true rfl) trivial ?_
    refine vl_nil ?_
    refine hK5 _ ?_
    refine vc_seq fun K10 hK10 => ?_
    refine vc_region ?_
    refine vl_q (q_move rfl) (dk rfl) ?_
    refine vl_q (q_assign rfl) (dk rfl) ?_
    refine vl_nil ?_
    refine hK10 _ ?_
    refine vc_ret ?_
    refine ret_g [] rfl (.cons (res_tmp rfl) .nil) (by rw [dByte_t hp]; rfl) rfl (nodupB_ok rfl) trivial trivial ⟨⟨_, by rw [dByte_t hp]; rfl, NR.clo _ _ _ _⟩, trivial⟩ (Nat.le_of_ble_eq_true rfl)
  · replace h34 := lss_nof h34
    simp only [List.length_map] at h34
    have hp : ¬ d.pos < d.bs.length := by omega
    refine va_done (by kernel_rfl) ?_
    refine hK6 _ ?_
    refine vc_cond_false rfl ?_
    refine vc_skip ?_
    refine hK5 _ ?_
    refine vc_seq fun K11 hK11 => ?_
    refine vc_region ?_
    refine vl_q (q_move rfl) (dk rfl) ?_
    refine vl_q (q_assign rfl) (dk rfl) ?_
    refine vl_nil ?_
    refine hK11 _ ?_
    refine vc_ret ?_
    refine ret_g [] rfl (.cons (res_tmp rfl) .nil) (by rw [dByte_f hp]; rfl) rfl (nodupB_ok rfl) trivial trivial ⟨⟨_, by rw [dByte_f hp]; rfl, NR.clo _ _ _ _⟩, trivial⟩ (Nat.le_of_ble_eq_true rfl)
theorem at27 : FnAt Pg 27 Go.Proofs.Try.f27 := ⟨by kernel_rfl, rfl, by decide⟩
theorem c_spec_l01Below (d : Dr) (n : Int) :
    Ctr Pg ty 27 [.one (.ptr 0 0 0), iv n] [drN d] (Gives (vv (.int .i64 (dBelow d n).1)) [] [drN (dBelow d n).2]) := by
  refine ctr at27 rfl (nsK_gives rfl trivial ⟨drN_ns _, trivial⟩) (Nat.le_of_ble_eq_true rfl) fun w0 S0 L0 Z => ?_
  refine vc_seq fun K1 hK1 => ?_
  refine vc_region ?_
  refine vl_q (q_assign rfl) (dk rfl) ?_
  refine vl_nil ?_
  refine hK1 _ ?_
  refine vc_seq fun K2 hK2 => ?_
  refine vc_seq fun K3 hK3 => ?_
  refine vc_region ?_
  refine vl_q (q_move rfl) (dk rfl) ?_
  refine vl_two (x := fun b => vv (.bool b)) _ (q_cmp rfl rfl rfl rfl) (dk rfl) (fun h10 => ?_) (fun h10 => ?_)
  · replace h10 := leq_of h10
    refine vl_nil ?_
    refine hK3 _ ?_
    refine vc_cond_true rfl ?_
    refine vc_seq fun K4 hK4 => ?_
    refine vc_region ?_
    refine vl_q (q_assign rfl) (dk rfl) ?_
    refine vl_nil ?_
    refine hK4 _ ?_
    refine vc_ret ?_
    refine ret_g [] rfl (.cons (res_tmp rfl) .nil) (by rw [dBelow_z (by omega)]; rfl) rfl (nodupB_ok rfl) trivial trivial ⟨⟨_, by rw [dBelow_z (by omega)]; rfl, NR.clo _ _ _ _⟩, trivial⟩ (Nat.le_of_ble_eq_true rfl)
  · replace h10 := leq_nof h10
    refine vl_nil ?_
    refine hK3 _ ?_
    refine vc_cond_false rfl ?_
    refine vc_skip ?_
    refine hK2 _ ?_
    refine vc_seq fun K5 hK5 => ?_
    refine vc_seq fun K6 hK6 => ?_
    refine vc_region ?_
    refine vl_q (q_move rfl) (dk rfl) ?_
    refine vl_two (x := fun b => vv (.bool b)) _ (q_cmp rfl rfl rfl rfl) (dk rfl) (fun h12 => ?_) (fun h12 => ?_)
    · replace h12 := leq_of h12
      refine vl_nil ?_
      refine hK6 _ ?_
      refine vc_cond_true rfl ?_
      refine vc_seq fun K7 hK7 => ?_
      refine vc_region ?_
      refine vl_q (q_move rfl) (dk rfl) ?_
      refine vl_callG [0] (vv (.int .i64 _)) (c_spec_l01Byte _) rfl rfl ⟨XOk.ptr rfl (by decide) _ _, trivial⟩ ⟨⟨_, rfl, NR.clo _ _ _ _⟩, trivial⟩ rfl (by decide) trivial ⟨fix_clo _ _, trivial⟩ rfl (.inl rfl) (dk rfl) ?_
      refine vl_q (q_move rfl) (dk rfl) ?_
      refine vl_q (q_rem rfl rfl (by first | decide | omega) rfl) (dk rfl) ?_
      refine vl_q (q_assign rfl) (dk rfl) ?_
      refine vl_nil ?_
      refine hK7 _ ?_
      refine vc_ret ?_
      refine ret_g [] rfl (.cons (res_tmp rfl) .nil) (by rw [dBelow_s (by omega) (by omega)]; rfl) rfl (nodupB_ok rfl) trivial trivial ⟨⟨_, by rw [dBelow_s (by omega) (by omega)]; rfl, NR.clo _ _ _ _⟩, trivial⟩ (Nat.le_of_ble_eq_true rfl)
    · replace h12 := leq_nof h12
      refine vl_nil ?_
      refine hK6 _ ?_
      refine vc_cond_false rfl ?_
      refine vc_skip ?_
      refine hK5 _ ?_
      refine vc_seq fun K8 hK8 => ?_
      refine vc_region ?_
      refine vl_q (q_move rfl) (dk rfl) ?_
      refine vl_callG [0] (vv (.int .i64 _)) (c_spec_l01Byte _) rfl rfl ⟨XOk.ptr rfl (by decide) _ _, trivial⟩ ⟨⟨_, rfl, NR.clo _ _ _ _⟩, trivial⟩ rfl (by decide) trivial ⟨fix_clo _ _, trivial⟩ rfl (.inl rfl) (dk rfl) ?_
      refine vl_q (q_assign rfl) (dk rfl) ?_
      refine vl_nil ?_
      refine hK8 _ ?_
      refine vc_seq fun K9 hK9 => ?_
      refine vc_region ?_
      refine vl_q (q_move rfl) (dk rfl) ?_
      refine vl_callG [0] (vv (.int .i64 _)) (c_spec_l01Byte _) rfl rfl ⟨XOk.ptr rfl (by decide) _ _, trivial⟩ ⟨⟨_, rfl, NR.clo _ _ _ _⟩, trivial⟩ rfl (by decide) trivial ⟨fix_clo _ _, trivial⟩ rfl (.inl rfl) (dk rfl) ?_
      refine vl_q (q_assign rfl) (dk rfl) ?_
      refine vl_nil ?_
      refine hK9 _ ?_
      refine vc_seq fun K10 hK10 => ?_
      refine vc_region ?_
      refine vl_q (q_move rfl) (dk rfl) ?_
      refine vl_callG [0] (vv (.int .i64 _)) (c_spec_l01Byte _) rfl rfl ⟨XOk.ptr rfl (by decide) _ _, trivial⟩ ⟨⟨_, rfl, NR.clo _ _ _ _⟩, trivial⟩ rfl (by decide) trivial ⟨fix_clo _ _, trivial⟩ rfl (.inl rfl) (dk rfl) ?_
      refine vl_q (q_assign rfl) (dk rfl) ?_
      refine vl_nil ?_
      refine hK10 _ ?_
      refine vc_seq fun K11 hK11 => ?_
      refine vc_region ?_
      refine vl_q (q_move rfl) (dk rfl) ?_
      refine vl_callG [0] (vv (.int .i64 _)) (c_spec_l01Byte _) rfl rfl ⟨XOk.ptr rfl (by decide) _ _, trivial⟩ ⟨⟨_, rfl, NR.clo _ _ _ _⟩, trivial⟩ rfl (by decide) trivial ⟨fix_clo _ _, trivial⟩ rfl (.inl rfl) (dk rfl) ?_
      refine vl_q (q_assign rfl) (dk rfl) ?_
      refine vl_nil ?_
      refine hK11 _ ?_
      refine vc_seq fun K12 hK12 => ?_
      have h1 := dByte_lt d
      have h2 := dByte_lt (dByte d).2
      have h3 := dByte_lt (dByte (dByte d).2).2
      have h4 := dByte_lt (dByte (dByte (dByte d).2).2).2
      refine vc_region ?_
      refine vl_q (q_move rfl) (dk rfl) ?_
      refine vl_q (q_mul rfl rfl (IntWalk.i64_in _ (by omega))) (dk rfl) ?_
      refine vl_q (q_move rfl) (dk rfl) ?_
      refine vl_q (q_mul rfl rfl (IntWalk.i64_in _ (by omega))) (dk rfl) ?_
      refine vl_q (q_add rfl rfl (IntWalk.i64_in _ (by omega))) (dk rfl) ?_
      refine vl_q (q_move rfl) (dk rfl) ?_
      refine vl_q (q_mul rfl rfl (IntWalk.i64_in _ (by omega))) (dk rfl) ?_
      refine vl_q (q_add rfl rfl (IntWalk.i64_in _ (by omega))) (dk rfl) ?_
      refine vl_q (q_move rfl) (dk rfl) ?_
      refine vl_q (q_add rfl rfl (IntWalk.i64_in _ (by omega))) (dk rfl) ?_
      refine vl_q (q_move rfl) (dk rfl) ?_
      refine vl_q (q_rem rfl rfl (by first | decide | omega) rfl) (dk rfl) ?_
      refine vl_q (q_assign rfl) (dk rfl) ?_
      refine vl_nil ?_
      refine hK12 _ ?_
      refine vc_ret ?_
      refine ret_g [] rfl (.cons (res_tmp rfl) .nil) (by rw [dBelow_l (by omega)]; rfl) rfl (nodupB_ok rfl) trivial trivial ⟨⟨_, by rw [dBelow_l (by omega)]; rfl, NR.clo _ _ _ _⟩, trivial⟩ (Nat.le_of_ble_eq_true rfl)
theorem at52 : FnAt Pg 52 Go.Proofs.Try.f52 := ⟨by kernel_rfl, rfl, by decide⟩
theorem c_spec_l01Text (d : Dr) (n : Nat) (hn : n ≤ 5000) :
    Ctr Pg ty 52 [.one (.ptr 0 0 0), iv n] [drN d] (Gives (vv (.string (dText d n).1)) [] [drN (dText d n).2]) := by
  refine ctr at52 rfl (nsK_gives rfl trivial ⟨drN_ns _, trivial⟩) (Nat.le_of_ble_eq_true rfl) fun w0 S0 L0 Z => ?_
  refine vc_seq fun K1 hK1 => ?_
  refine vc_region ?_
  refine vl_q (q_assign rfl) (dk rfl) ?_
  refine vl_nil ?_
  refine hK1 _ ?_
  refine vc_seq fun K2 hK2 => ?_
  refine vc_seq fun K3 hK3 => ?_
  refine vc_region ?_
  refine vl_q (q_move rfl) (dk rfl) ?_
  refine vl_two (x := fun b => vv (.bool b)) _ (q_cmp rfl rfl rfl rfl) (dk rfl) (fun h8 => ?_) (fun h8 => ?_)
  · replace h8 := gtr_of h8
    omega
  · replace h8 := gtr_nof h8
    refine vl_nil ?_
    refine hK3 _ ?_
    refine vc_cond_false rfl ?_
    refine vc_skip ?_
    refine hK2 _ ?_
    refine vc_seq fun K4 hK4 => ?_
    refine vc_region ?_
    refine vl_bslice rfl rfl rfl rfl rfl rfl trivial (by decide) (by decide) (dk rfl) ?_
    refine vl_q (q_assign rfl) (dk rfl) ?_
    refine vl_nil ?_
    refine hK4 _ ?_
    refine vc_seq fun K5 hK5 => ?_
    refine vc_seq fun K6 hK6 => ?_
    refine vc_region ?_
    refine vl_q (q_assign rfl) (dk rfl) ?_
    refine vl_nil ?_
    refine hK6 _ ?_
    refine vc_block ?_
    refine vc_loop (fun mz st => ∃ i : Nat, (i ≤ n) ∧ mz = n - i ∧ st = mkSt [(0, .v (.one (.ptr 0 0 0))), (1, .v (iv n)), (5, .v (.one (.hdr 16 0 i))), (6, .v (iv i))] [(0, drN (txS d i).2), (16, ⟨1, clo ((txS d i).1.map byteC)⟩)] 17) ⟨_, _, ⟨0, by omega, rfl, rfl⟩, (Weak.cut _ _ _ (Nat.le_of_ble_eq_true rfl) ⟨⟨rfl, rfl⟩, ⟨rfl, rfl⟩, ⟨rfl, rfl⟩, ⟨rfl, rfl⟩, trivial⟩ ⟨⟨Nat.le_of_ble_eq_true rfl, rfl, belN_clo _ _ _⟩, ⟨Nat.le_of_ble_eq_true rfl, rfl, belN_clo _ _ _⟩, trivial⟩ rfl)⟩ (fun mz st hI => ?_)
    obtain ⟨i, hi, hmz, rfl⟩ := hI
    refine vc_seq fun K7 hK7 => ?_
    refine vc_seq fun K8 hK8 => ?_
    refine vc_region ?_
    refine vl_q (q_move rfl) (dk rfl) ?_
    refine vl_q (q_move rfl) (dk rfl) ?_
    refine vl_two (x := fun b => vv (.bool b)) _ (q_cmp rfl rfl rfl rfl) (dk rfl) (fun h12 => ?_) (fun h12 => ?_)
    · replace h12 := lss_of h12
      refine vl_nil ?_
      refine hK8 _ ?_
      refine vc_cond_true rfl ?_
      refine vc_skip ?_
      refine hK7 _ ?_
      refine vc_seq fun K9 hK9 => ?_
      refine vc_block ?_
      refine vc_region ?_
      refine vl_q (q_move rfl) (dk rfl) ?_
      refine vl_q (q_move rfl) (dk rfl) ?_
      refine vl_callG [0] (vv (.int .i64 _)) (c_spec_l01Byte _) rfl rfl ⟨XOk.ptr rfl (by decide) _ _, trivial⟩ ⟨⟨_, rfl, NR.clo _ _ _ _⟩, trivial⟩ rfl (by decide) trivial ⟨fix_clo _ _, trivial⟩ rfl (.inl rfl) (dk rfl) ?_
      refine vl_q (q_convInt rfl rfl rfl rfl rfl) (dk rfl) ?_
      refine vl_bslice rfl rfl rfl rfl rfl rfl ⟨rfl, trivial⟩ (by decide) (by decide) (dk rfl) ?_
      refine vl_append rfl rfl rfl rfl (fun _ h => TypeDesc.noConfusion h) rfl rfl rfl (by simp [clo, txS_len]) (src_row rfl rfl rfl rfl) (by show (_ + 1) * 1 ≤ _; omega) (by show _ + 1 < _; omega) (dk rfl) ?_
      refine vl_q (q_assign rfl) (dk rfl) ?_
      refine vl_nil ?_
      refine hK9 _ ?_
      refine vc_region ?_
      refine vl_q (q_move rfl) (dk rfl) ?_
      refine vl_q (q_add rfl rfl (IntWalk.i64_in _ (by omega))) (dk rfl) ?_
      refine vl_q (q_assign rfl) (dk rfl) ?_
      refine vl_nil ?_
      refine ⟨_, _, ?_, ⟨i + 1, by omega, rfl, rfl⟩, (Weak.to (fun n => bif Nat.beq n 16 then 18 else n) _ _ _ (Nat.le_of_ble_eq_true rfl) (fun n hn => sgm_lo hn (Nat.le_of_ble_eq_true rfl) (rfl)) ⟨⟨rfl, rfl⟩, ⟨rfl, rfl⟩, ⟨rfl, rfl⟩, ⟨rfl, rfl⟩, trivial⟩ ⟨⟨Nat.le_of_ble_eq_true rfl, _, rfl, NR.clo _ _ _ _⟩, ⟨Nat.le_of_ble_eq_true rfl, _, some_node (txS_next d i), NR.clo _ _ _ _⟩, trivial⟩ (nodupB_ok rfl))⟩
      omega
    · replace h12 := lss_nof h12
      refine vl_nil ?_
      refine hK8 _ ?_
      refine vc_cond_false rfl ?_
      refine vc_exit ?_
      refine hK5 _ ?_
      refine vc_seq fun K10 hK10 => ?_
      obtain rfl : i = n := by omega
      refine vc_region ?_
      refine vl_q (q_move rfl) (dk rfl) ?_
      refine vl_bytesStr (ns := (txS d i).1) rfl rfl rfl rfl rfl rfl (src_hdr (nd := ⟨1, clo ((txS d i).1.map byteC)⟩) (lo := 0) (n := i) (xs := (txS d i).1.map byteX) rfl rfl (by simp [clo, txS_len]) (by rw [clo_bytes, List.drop_zero, List.take_of_length_le (by simp [txS_len])]) (bytes_plain _) (bytes_wid _)) (hdr_shape rfl (txS_len d i).symm) (dk rfl) ?_
      refine vl_q (q_assign rfl) (dk rfl) ?_
      refine vl_nil ?_
      refine hK10 _ ?_
      refine vc_ret ?_
      refine ret_g [] rfl (.cons (res_tmp rfl) .nil) (rfl) rfl (nodupB_ok rfl) trivial trivial ⟨⟨_, rfl, NR.clo _ _ _ _⟩, trivial⟩ (Nat.le_of_ble_eq_true rfl)
end Go.Vm.S
namespace Go.Vm.S
open Go Go.Vm
set_option maxRecDepth 100000
set_option linter.unusedVariables false
set_option maxHeartbeats 4000000
theorem at53 : FnAt Pg 53 Go.Proofs.Try.f53 := ⟨by kernel_rfl, rfl, by decide⟩
theorem c_spec_l01Long (n : Nat) (x : Int) (hn : n ≤ 5000) :
    Ctr Pg ty 53 [iv n, .one (.c (.val (.int .u8 x)))] [] (Gives (vv (.string (bstr (List.replicate n x)))) [] []) := by
  refine ctr at53 rfl (nsK_gives rfl trivial trivial) (Nat.le_of_ble_eq_true rfl) fun w0 S0 L0 Z => ?_
  refine vc_seq fun K1 hK1 => ?_
  refine vc_region ?_
  refine vl_q (q_assign rfl) (dk rfl) ?_
  refine vl_nil ?_
  refine hK1 _ ?_
  refine vc_seq fun K2 hK2 => ?_
  refine vc_region ?_
  refine vl_q (q_move rfl) (dk rfl) ?_
  refine vl_makeSlice rfl rfl rfl rfl rfl (by omega) (by omega) (by show ((1 : Nat) : Int) * _ ≤ _; omega) (by decide) (dk rfl) ?_
  refine vl_q (q_assign rfl) (dk rfl) ?_
  refine vl_nil ?_
  refine hK2 _ ?_
  refine vc_seq fun K3 hK3 => ?_
  refine vc_seq fun K4 hK4 => ?_
  refine vc_region ?_
  refine vl_q (q_assign rfl) (dk rfl) ?_
  refine vl_nil ?_
  refine hK4 _ ?_
  refine vc_block ?_
  refine vc_weak (Weak.node (m := 16) (nd' := ⟨1, clo (List.replicate 0 (byteC x) ++ List.replicate n (byteC 0))⟩) rfl (by simp only [Int.toNat_natCast, List.replicate_zero, List.nil_append, clo, List.map_replicate]; rfl)) ?_
  simp only [Int.toNat_natCast]
  refine vc_loop (fun mz st => ∃ i : Nat, (i ≤ n) ∧ mz = n - i ∧ st = mkSt [(0, .v (iv n)), (1, .v (.one (.c (.val (.int .u8 x))))), (5, .v (.one (.hdr 16 0 n))), (6, .v (iv i))] [(16, ⟨1, clo (List.replicate i (byteC x) ++ List.replicate (n - i) (byteC 0))⟩)] 17) ⟨_, _, ⟨0, by omega, rfl, rfl⟩, (Weak.cut _ _ _ (Nat.le_of_ble_eq_true rfl) ⟨⟨rfl, rfl⟩, ⟨rfl, rfl⟩, ⟨rfl, rfl⟩, ⟨rfl, rfl⟩, trivial⟩ ⟨⟨Nat.le_of_ble_eq_true rfl, rfl, belN_clo _ _ _⟩, trivial⟩ rfl)⟩ (fun mz st hI => ?_)
  obtain ⟨i, hi, hmz, rfl⟩ := hI
  refine vc_seq fun K5 hK5 => ?_
  refine vc_seq fun K6 hK6 => ?_
  refine vc_region ?_
  refine vl_q (q_move rfl) (dk rfl) ?_
  refine vl_q (q_move rfl) (dk rfl) ?_
  refine vl_two (x := fun b => vv (.bool b)) _ (q_cmp rfl rfl rfl rfl) (dk rfl) (fun h11 => ?_) (fun h11 => ?_)
  · replace h11 := lss_of h11
    refine vl_nil ?_
    refine hK6 _ ?_
    refine vc_cond_true rfl ?_
    refine vc_skip ?_
    refine hK5 _ ?_
    refine vc_seq fun K7 hK7 => ?_
    refine vc_block ?_
    refine vc_region ?_
    refine vl_q (q_move rfl) (dk rfl) ?_
    refine vl_q (q_move rfl) (dk rfl) ?_
    refine vl_q (q_move rfl) (dk rfl) ?_
    refine vl_q (q_indexAddr rfl rfl rfl rfl rfl rfl rfl (by omega) (by omega)) (dk rfl) ?_
    refine vl_store rfl rfl rfl rfl (fill_get (by omega)) rfl (Nat.le_of_ble_eq_true rfl) trivial ?_
    refine vl_nil ?_
    refine hK7 _ ?_
    refine vc_region ?_
    refine vl_q (q_move rfl) (dk rfl) ?_
    refine vl_q (q_add rfl rfl (IntWalk.i64_in _ (by omega))) (dk rfl) ?_
    refine vl_q (q_assign rfl) (dk rfl) ?_
    refine vl_nil ?_
    refine ⟨_, _, ?_, ⟨i + 1, by omega, rfl, rfl⟩, (Weak.cut _ _ _ (Nat.le_of_ble_eq_true rfl) ⟨⟨rfl, rfl⟩, ⟨rfl, rfl⟩, ⟨rfl, rfl⟩, ⟨rfl, rfl⟩, trivial⟩ ⟨⟨Nat.le_of_ble_eq_true rfl, some_node (fill_next (by omega)), belN_clo _ _ _⟩, trivial⟩ rfl)⟩
    omega
  · replace h11 := lss_nof h11
    refine vl_nil ?_
    refine hK6 _ ?_
    refine vc_cond_false rfl ?_
    refine vc_exit ?_
    refine hK3 _ ?_
    refine vc_seq fun K8 hK8 => ?_
    obtain rfl : i = n := by omega
    refine vc_region ?_
    refine vl_q (q_move rfl) (dk rfl) ?_
    refine vl_bytesStr (ns := List.replicate i x) rfl rfl rfl rfl rfl rfl (src_hdr (nd := ⟨1, clo (List.replicate i (byteC x) ++ List.replicate (i - i) (byteC 0))⟩) (lo := 0) (n := i) (xs := (List.replicate i x).map byteX) rfl rfl (by simp [clo]) (by simp [clo, byteC, byteX]) (bytes_plain _) (bytes_wid _)) (hdr_shape rfl (by simp)) (dk rfl) ?_
    refine vl_q (q_assign rfl) (dk rfl) ?_
    refine vl_nil ?_
    refine hK8 _ ?_
    refine vc_ret ?_
    refine ret_p rfl (.cons (res_tmp rfl) .nil) rfl ?_
    rfl
theorem at54 : FnAt Pg 54 Go.Proofs.Try.f54 := ⟨by kernel_rfl, rfl, by decide⟩
theorem c_spec_l01PickInt (d : Dr) (l : List Int) (h0 : 0 < l.length) (h1 : l.length ≤ 256) :
    Ctr Pg ty 54 [.one (.ptr 0 0 0), shv 1 (l.map intC)] [drN d] (Gives (vv (.int .i64 (l.getD (dBelow d l.length).1.toNat 0))) [] [drN (dBelow d l.length).2]) := by
  refine ctr at54 rfl (nsK_gives rfl trivial ⟨drN_ns _, trivial⟩) (Nat.le_of_ble_eq_true rfl) fun w0 S0 L0 Z => ?_
  refine vc_seq fun K1 hK1 => ?_
  refine vc_region ?_
  refine vl_q (q_assign rfl) (dk rfl) ?_
  refine vl_nil ?_
  refine hK1 _ ?_
  refine vc_seq fun K2 hK2 => ?_
  refine vc_region ?_
  refine vl_q (q_move rfl) (dk rfl) ?_
  refine vl_q (q_move rfl) (dk rfl) ?_
  refine vl_q (q_move rfl) (dk rfl) ?_
  refine vl_q (q_len_sh rfl rfl rfl) (dk rfl) ?_
  simp only [List.length_map]
  refine vl_callG [0] (vv (.int .i64 _)) (c_spec_l01Below _ _) rfl rfl ⟨XOk.ptr rfl (by decide) _ _, XOk.val _, trivial⟩ ⟨⟨_, rfl, NR.clo _ _ _ _⟩, trivial⟩ rfl (by decide) trivial ⟨fix_clo _ _, trivial⟩ rfl (.inl rfl) (dk rfl) ?_
  have hlt := dBelow_lt d (n := l.length) (by omega)
  refine vl_q (q_indexAddr_sh rfl rfl rfl rfl rfl rfl (by decide) (by omega) (get_map (by omega))) (dk rfl) ?_
  refine vl_load_sp rfl rfl rfl rfl (by decide) (dk rfl) ?_
  refine vl_q (q_assign rfl) (dk rfl) ?_
  refine vl_nil ?_
  refine hK2 _ ?_
  refine vc_ret ?_
  refine ret_g [] rfl (.cons (res_tmp rfl) .nil) (by rw [getD_in (show (dBelow d l.length).1.toNat < l.length by omega)]; rfl) rfl (nodupB_ok rfl) trivial trivial ⟨⟨_, rfl, NR.clo _ _ _ _⟩, trivial⟩ (Nat.le_of_ble_eq_true rfl)
end Go.Vm.S
namespace Go.Vm.S
open Go Go.Vm
set_option maxRecDepth 100000
set_option linter.unusedVariables false
set_option maxHeartbeats 4000000
theorem at26 : FnAt Pg 26 Go.Proofs.Try.f26 := ⟨by kernel_rfl, rfl, by decide⟩
theorem c_spec_l20Long (d : Dr) :
    Ctr Pg ty 26 [.one (.ptr 0 0 0)] [drN d] (Gives (vv (.string (dLong d).1)) [] [drN (dLong d).2]) := by
  refine ctr at26 rfl (nsK_gives rfl trivial ⟨drN_ns _, trivial⟩) (Nat.le_of_ble_eq_true rfl) fun w0 S0 L0 Z => ?_
  refine vc_seq fun K1 hK1 => ?_
  refine vc_region ?_
  refine vl_q (q_assign rfl) (dk rfl) ?_
  refine vl_nil ?_
  refine hK1 _ ?_
  refine vc_seq fun K2 hK2 => ?_
  refine vc_region ?_
  refine vl_q (q_move rfl) (dk rfl) ?_
  refine vl_q (q_move rfl) (dk rfl) ?_
  refine vl_callG [0] (vv (.int .i64 _)) (c_spec_l01Below _ _) rfl rfl ⟨XOk.ptr rfl (by decide) _ _, XOk.val _, trivial⟩ ⟨⟨_, rfl, NR.clo _ _ _ _⟩, trivial⟩ rfl (by decide) trivial ⟨fix_clo _ _, trivial⟩ rfl (.inl rfl) (dk rfl) ?_
  have h1 := dBelow_lt d (n := 9) (by omega)
  obtain ⟨k, hk⟩ : ∃ k : Nat, (dBelow d 9).1 = k := ⟨(dBelow d 9).1.toNat, by omega⟩
  have hk2 : (dBelow d 9).1.toNat = k := by omega
  rw [hk]
  refine vl_callG [0] (vv (.string _)) (c_spec_l01Text _ k (by omega)) rfl rfl ⟨XOk.ptr rfl (by decide) _ _, XOk.val _, trivial⟩ ⟨⟨_, rfl, NR.clo _ _ _ _⟩, trivial⟩ rfl (by decide) trivial ⟨fix_clo _ _, trivial⟩ rfl (.inl rfl) (dk rfl) ?_
  refine vl_q (q_move rfl) (dk rfl) ?_
  refine vl_bslice rfl rfl rfl rfl rfl rfl ⟨rfl, rfl, rfl, rfl, rfl, rfl, rfl, trivial⟩ (by decide) (by decide) (dk rfl) ?_
  refine vl_callG [0] (vv (.int .i64 _)) (c_spec_l01PickInt _ longL (by decide) (by decide)) rfl rfl ⟨XOk.ptr rfl (by decide) _ _, XOk.snapH (es := longL.map intC) rfl (of_decide_eq_false rfl) rfl (map_wid fun _ => rfl) rfl, trivial⟩ ⟨⟨_, rfl, NR.clo _ _ _ _⟩, trivial⟩ rfl (by decide) trivial ⟨fix_clo _ _, trivial⟩ rfl (.inl rfl) (dk rfl) ?_
  refine vl_q (q_move rfl) (dk rfl) ?_
  refine vl_callG [0] (vv (.int .i64 _)) (c_spec_l01Below _ _) rfl rfl ⟨XOk.ptr rfl (by decide) _ _, XOk.val _, trivial⟩ ⟨⟨_, rfl, NR.clo _ _ _ _⟩, trivial⟩ rfl (by decide) trivial ⟨fix_clo _ _, trivial⟩ rfl (.inl rfl) (dk rfl) ?_
  have h8 := dBelow_lt (dBelow (dText (dBelow d 9).2 k).2 (longL.length : Nat)).2 (n := 9) (by omega)
  refine vl_q (q_add rfl rfl (IntWalk.i64_in _ (by omega))) (dk rfl) ?_
  refine vl_q (q_convInt rfl rfl rfl rfl rfl) (dk rfl) ?_
  have hb := longN_le (dText (dBelow d 9).2 k).2
  rw [longN_eq]
  refine vl_callP (c_spec_l01Long (longN (dText (dBelow d 9).2 k).2) _ (by omega)) rfl rfl ⟨XOk.val _, XOk.val _, trivial⟩ rfl (.inl rfl) (dk rfl) ?_
  refine vl_q (q_cat rfl rfl (by rw [dText_size, bstr_size, List.length_replicate]; omega)) (dk rfl) ?_
  refine vl_q (q_assign rfl) (dk rfl) ?_
  refine vl_nil ?_
  refine hK2 _ ?_
  refine vc_ret ?_
  refine ret_g [] rfl (.cons (res_tmp rfl) .nil) (by rw [dLong_eq hk2]; rfl) rfl (nodupB_ok rfl) trivial trivial ⟨⟨_, by rw [dLong_eq hk2]; rfl, NR.clo _ _ _ _⟩, trivial⟩ (Nat.le_of_ble_eq_true rfl)
end Go.Vm.S
namespace Go.Vm.S
open Go Go.Vm
set_option maxRecDepth 100000
set_option linter.unusedVariables false
set_option maxHeartbeats 4000000
theorem at7 : FnAt Pg 7 Go.Proofs.Try.f7 := ⟨by kernel_rfl, rfl, by decide⟩
theorem c_laws_big (bs : List Int) :
    Ctr Pg ty 7 [.one (.c (.fz 1 (bs.map byteC)))] [] (Gives (vv (.bool (decide ((1048576 : Int) < bs.length)))) [] []) := by
  refine ctr at7 rfl (nsK_gives rfl trivial trivial) (Nat.le_of_ble_eq_true rfl) fun w0 S0 L0 Z => ?_
  refine vc_seq fun K1 hK1 => ?_
  refine vc_region ?_
  refine vl_q (q_assign rfl) (dk rfl) ?_
  refine vl_nil ?_
  refine hK1 _ ?_
  refine vc_seq fun K2 hK2 => ?_
  refine vc_region ?_
  refine vl_q (q_move rfl) (dk rfl) ?_
  refine vl_q (q_len_fz rfl rfl rfl) (dk rfl) ?_
  refine vl_q (q_cmp rfl rfl rfl rfl) (dk rfl) ?_
  refine vl_q (q_assign rfl) (dk rfl) ?_
  refine vl_nil ?_
  refine hK2 _ ?_
  refine vc_ret ?_
  refine ret_p rfl (.cons (res_tmp rfl) .nil) rfl ?_
  simp only [List.length_map]; rfl
theorem at25 : FnAt Pg 25 Go.Proofs.Try.f25 := ⟨by kernel_rfl, rfl, by decide⟩
theorem c_spec_l01New (bs : List Int) (hb : bs.length ≤ 1048576) :
    Ctr Pg ty 25 [.one (.c (.fz 1 (bs.map byteC)))] [] (Gives (.v (.one (.ptr 16 0 0))) [drN (dNew bs hb)] []) := by
  refine ctr at25 rfl (nsK_gives rfl ⟨drN_ns _, trivial⟩ trivial) (Nat.le_of_ble_eq_true rfl) fun w0 S0 L0 Z => ?_
  refine vc_seq fun K1 hK1 => ?_
  refine vc_region ?_
  refine vl_q (q_assign rfl) (dk rfl) ?_
  refine vl_nil ?_
  refine hK1 _ ?_
  refine vc_seq fun K2 hK2 => ?_
  refine vc_region ?_
  refine vl_q (q_move rfl) (dk rfl) ?_
  refine vl_q (q_len_fz rfl rfl rfl) (dk rfl) ?_
  simp only [List.length_map]
  refine vl_q (q_add rfl rfl (IntWalk.i64_in _ (by omega))) (dk rfl) ?_
  refine vl_q (q_assign rfl) (dk rfl) ?_
  refine vl_nil ?_
  refine hK2 _ ?_
  refine vc_seq fun K3 hK3 => ?_
  refine vc_seq fun K4 hK4 => ?_
  refine vc_region ?_
  refine vl_q (q_assign rfl) (dk rfl) ?_
  refine vl_nil ?_
  refine hK4 _ ?_
  refine vc_block ?_
  refine vc_loop (fun mz st => ∃ i : Nat, (i ≤ min bs.length 4000) ∧ mz = bs.length - i ∧ st = mkSt [(0, .v (.one (.c (.fz 1 (bs.map byteC))))), (3, .v (iv (hS bs (36201 + bs.length) i))), (4, .v (iv i))] [] 16) ⟨_, _, ⟨0, by omega, rfl, rfl⟩, (Weak.cut _ _ _ (Nat.le_of_ble_eq_true rfl) ⟨⟨rfl, rfl⟩, ⟨rfl, rfl⟩, ⟨rfl, rfl⟩, trivial⟩ trivial rfl)⟩ (fun mz st hI => ?_)
  obtain ⟨i, hi, hmz, rfl⟩ := hI
  refine vc_seq fun K5 hK5 => ?_
  refine vc_seq fun K6 hK6 => ?_
  refine vc_region ?_
  refine vl_q (q_move rfl) (dk rfl) ?_
  refine vl_q (q_move rfl) (dk rfl) ?_
  refine vl_q (q_len_fz rfl rfl rfl) (dk rfl) ?_
  simp only [List.length_map]
  refine vl_two (x := fun b => vv (.bool b)) _ (q_cmp rfl rfl rfl rfl) (dk rfl) (fun h11 => ?_) (fun h11 => ?_)
  · replace h11 := lss_of h11
    refine vl_q (q_move rfl) (dk rfl) ?_
    refine vl_guard_on rfl rfl rfl ?_
    refine vl_q (q_move rfl) (dk rfl) ?_
    refine vl_guard_on rfl rfl rfl ?_
    refine vl_two (x := fun b => vv (.bool b)) _ (q_cmp rfl rfl rfl rfl) (dk rfl) (fun h14 => ?_) (fun h14 => ?_)
    · replace h14 := lss_of h14
      refine vl_q (q_pick_true rfl rfl) (dk rfl) ?_
      refine vl_nil ?_
      refine hK6 _ ?_
      refine vc_cond_true rfl ?_
      refine vc_skip ?_
      refine hK5 _ ?_
      refine vc_seq fun K7 hK7 => ?_
      refine vc_block ?_
      have hil : i < bs.length := by omega
      refine vc_region ?_
      refine vl_q (q_move rfl) (dk rfl) ?_
      refine vl_q (q_mul rfl rfl rfl) (dk rfl) ?_
      refine vl_q (q_move rfl) (dk rfl) ?_
      refine vl_q (q_move rfl) (dk rfl) ?_
      refine vl_q (q_indexAddr_fz rfl rfl rfl rfl rfl rfl (by decide) (by omega) (get_map (i := i) hil)) (dk rfl) ?_
      refine vl_load_sp rfl rfl rfl rfl (by decide) (dk rfl) ?_
      refine vl_q (q_convInt rfl rfl rfl rfl rfl) (dk rfl) ?_
      refine vl_q (q_add rfl rfl rfl) (dk rfl) ?_
      refine vl_q (q_add rfl rfl rfl) (dk rfl) ?_
      refine vl_q (q_bit rfl rfl rfl rfl) (dk rfl) ?_
      refine vl_q (q_assign rfl) (dk rfl) ?_
      refine vl_nil ?_
      refine hK7 _ ?_
      refine vc_region ?_
      refine vl_q (q_move rfl) (dk rfl) ?_
      refine vl_q (q_add rfl rfl (IntWalk.i64_in _ (by omega))) (dk rfl) ?_
      refine vl_q (q_assign rfl) (dk rfl) ?_
      refine vl_nil ?_
      refine ⟨_, _, ?_, ⟨i + 1, by omega, rfl, rfl⟩, (Weak.cut _ _ _ (Nat.le_of_ble_eq_true rfl) ⟨⟨rfl, rfl⟩, ⟨(hS_tm hil), rfl⟩, ⟨rfl, rfl⟩, trivial⟩ trivial rfl)⟩
      omega
    · replace h14 := lss_nof h14
      refine vl_q (q_pick_true rfl rfl) (dk rfl) ?_
      refine vl_nil ?_
      refine hK6 _ ?_
      refine vc_cond_false rfl ?_
      refine vc_exit ?_
      refine hK3 _ ?_
      refine vc_seq fun K8 hK8 => ?_
      obtain rfl : i = min bs.length 4000 := by omega
      refine vc_region ?_
      refine vl_q (q_move rfl) (dk rfl) ?_
      refine vl_q (q_move rfl) (dk rfl) ?_
      refine vl_q (q_build rfl rfl rfl rfl rfl) (dk rfl) ?_
      refine vl_box rfl (dk rfl) ?_
      refine vl_q (q_assign rfl) (dk rfl) ?_
      refine vl_nil ?_
      refine hK8 _ ?_
      refine vc_ret ?_
      refine ret_g [16] rfl (.cons (res_tmp rfl) .nil) rfl rfl (nodupB_ok rfl) ⟨by decide, trivial⟩ ⟨⟨_, rfl, NR.clo _ _ _ _⟩, trivial⟩ trivial (Nat.zero_le _)
  · replace h11 := lss_nof h11
    refine vl_q (q_move rfl) (dk rfl) ?_
    refine vl_goff rfl rfl rfl (by decide) (dk rfl) ?_
    refine vl_goff rfl rfl rfl (by decide) (dk rfl) ?_
    refine vl_q (q_pick_false rfl rfl) (dk rfl) ?_
    refine vl_nil ?_
    refine hK6 _ ?_
    refine vc_cond_false rfl ?_
    refine vc_exit ?_
    refine hK3 _ ?_
    refine vc_seq fun K9 hK9 => ?_
    obtain rfl : i = min bs.length 4000 := by omega
    refine vc_region ?_
    refine vl_q (q_move rfl) (dk rfl) ?_
    refine vl_q (q_move rfl) (dk rfl) ?_
    refine vl_q (q_build rfl rfl rfl rfl rfl) (dk rfl) ?_
    refine vl_box rfl (dk rfl) ?_
    refine vl_q (q_assign rfl) (dk rfl) ?_
    refine vl_nil ?_
    refine hK9 _ ?_
    refine vc_ret ?_
    refine ret_g [16] rfl (.cons (res_tmp rfl) .nil) rfl rfl (nodupB_ok rfl) ⟨by decide, trivial⟩ ⟨⟨_, rfl, NR.clo _ _ _ _⟩, trivial⟩ trivial (Nat.zero_le _)
end Go.Vm.S
namespace Go.Vm.S
open Go Go.Vm
set_option maxRecDepth 100000
set_option linter.unusedVariables false
set_option maxHeartbeats 4000000
theorem at28 : FnAt Pg 28 Go.Proofs.Try.f28 := ⟨by kernel_rfl, rfl, by decide⟩
theorem c_impl_within (n lo hi : Int) :
    Ctr Pg ty 28 [iv n, iv lo, iv hi] [] (Gives (vv (.bool (within n lo hi))) [] []) := by
  refine ctr at28 rfl (nsK_gives rfl trivial trivial) (Nat.le_of_ble_eq_true rfl) fun w0 S0 L0 Z => ?_
  refine vc_seq fun K1 hK1 => ?_
  refine vc_region ?_
  refine vl_q (q_assign rfl) (dk rfl) ?_
  refine vl_nil ?_
  refine hK1 _ ?_
  refine vc_seq fun K2 hK2 => ?_
  refine vc_region ?_
  refine vl_q (q_move rfl) (dk rfl) ?_
  refine vl_q (q_move rfl) (dk rfl) ?_
  refine vl_two (x := fun b => vv (.bool b)) _ (q_cmp rfl rfl rfl rfl) (dk rfl) (fun h9 => ?_) (fun h9 => ?_)
  · replace h9 := geq_of h9
    refine vl_q (q_move rfl) (dk rfl) ?_
    refine vl_guard_on rfl rfl rfl ?_
    refine vl_q (q_move rfl) (dk rfl) ?_
    refine vl_guard_on rfl rfl rfl ?_
    refine vl_q (q_move rfl) (dk rfl) ?_
    refine vl_guard_on rfl rfl rfl ?_
    refine vl_two (x := fun b => vv (.bool b)) _ (q_cmp rfl rfl rfl rfl) (dk rfl) (fun h13 => ?_) (fun h13 => ?_)
    · replace h13 := leq_of h13
      refine vl_q (q_pick_true rfl rfl) (dk rfl) ?_
      refine vl_q (q_assign rfl) (dk rfl) ?_
      refine vl_nil ?_
      refine hK2 _ ?_
      refine vc_ret ?_
      refine ret_p rfl (.cons (res_tmp rfl) .nil) rfl ?_
      first | (rw [within_t (by omega) (by omega)]; rfl) | (rw [within_f (by omega)]; rfl)
    · replace h13 := leq_nof h13
      refine vl_q (q_pick_true rfl rfl) (dk rfl) ?_
      refine vl_q (q_assign rfl) (dk rfl) ?_
      refine vl_nil ?_
      refine hK2 _ ?_
      refine vc_ret ?_
      refine ret_p rfl (.cons (res_tmp rfl) .nil) rfl ?_
      first | (rw [within_t (by omega) (by omega)]; rfl) | (rw [within_f (by omega)]; rfl)
  · replace h9 := geq_nof h9
    refine vl_q (q_move rfl) (dk rfl) ?_
    refine vl_goff rfl rfl rfl (by decide) (dk rfl) ?_
    refine vl_goff rfl rfl rfl (by decide) (dk rfl) ?_
    refine vl_goff rfl rfl rfl (by decide) (dk rfl) ?_
    refine vl_q (q_pick_false rfl rfl) (dk rfl) ?_
    refine vl_q (q_assign rfl) (dk rfl) ?_
    refine vl_nil ?_
    refine hK2 _ ?_
    refine vc_ret ?_
    refine ret_p rfl (.cons (res_tmp rfl) .nil) rfl ?_
    first | (rw [within_t (by omega) (by omega)]; rfl) | (rw [within_f (by omega)]; rfl)
theorem at30 : FnAt Pg 30 Go.Proofs.Try.f30 := ⟨by kernel_rfl, rfl, by decide⟩
theorem c_spec_l01In (n lo hi : Int) :
    Ctr Pg ty 30 [iv n, iv lo, iv hi] [] (Gives (vv (.bool (within n lo hi))) [] []) := by
  refine ctr at30 rfl (nsK_gives rfl trivial trivial) (Nat.le_of_ble_eq_true rfl) fun w0 S0 L0 Z => ?_
  refine vc_seq fun K1 hK1 => ?_
  refine vc_region ?_
  refine vl_q (q_assign rfl) (dk rfl) ?_
  refine vl_nil ?_
  refine hK1 _ ?_
  refine vc_seq fun K2 hK2 => ?_
  refine vc_region ?_
  refine vl_q (q_move rfl) (dk rfl) ?_
  refine vl_q (q_move rfl) (dk rfl) ?_
  refine vl_two (x := fun b => vv (.bool b)) _ (q_cmp rfl rfl rfl rfl) (dk rfl) (fun h9 => ?_) (fun h9 => ?_)
  · replace h9 := geq_of h9
    refine vl_q (q_move rfl) (dk rfl) ?_
    refine vl_guard_on rfl rfl rfl ?_
    refine vl_q (q_move rfl) (dk rfl) ?_
    refine vl_guard_on rfl rfl rfl ?_
    refine vl_q (q_move rfl) (dk rfl) ?_
    refine vl_guard_on rfl rfl rfl ?_
    refine vl_two (x := fun b => vv (.bool b)) _ (q_cmp rfl rfl rfl rfl) (dk rfl) (fun h13 => ?_) (fun h13 => ?_)
    · replace h13 := leq_of h13
      refine vl_q (q_pick_true rfl rfl) (dk rfl) ?_
      refine vl_q (q_assign rfl) (dk rfl) ?_
      refine vl_nil ?_
      refine hK2 _ ?_
      refine vc_ret ?_
      refine ret_p rfl (.cons (res_tmp rfl) .nil) rfl ?_
      first | (rw [within_t (by omega) (by omega)]; rfl) | (rw [within_f (by omega)]; rfl)
    · replace h13 := leq_nof h13
      refine vl_q (q_pick_true rfl rfl) (dk rfl) ?_
      refine vl_q (q_assign rfl) (dk rfl) ?_
      refine vl_nil ?_
      refine hK2 _ ?_
      refine vc_ret ?_
      refine ret_p rfl (.cons (res_tmp rfl) .nil) rfl ?_
      first | (rw [within_t (by omega) (by omega)]; rfl) | (rw [within_f (by omega)]; rfl)
  · replace h9 := geq_nof h9
    refine vl_q (q_move rfl) (dk rfl) ?_
    refine vl_goff rfl rfl rfl (by decide) (dk rfl) ?_
    refine vl_goff rfl rfl rfl (by decide) (dk rfl) ?_
    refine vl_goff rfl rfl rfl (by decide) (dk rfl) ?_
    refine vl_q (q_pick_false rfl rfl) (dk rfl) ?_
    refine vl_q (q_assign rfl) (dk rfl) ?_
    refine vl_nil ?_
    refine hK2 _ ?_
    refine vc_ret ?_
    refine ret_p rfl (.cons (res_tmp rfl) .nil) rfl ?_
    first | (rw [within_t (by omega) (by omega)]; rfl) | (rw [within_f (by omega)]; rfl)
theorem at34 : FnAt Pg 34 Go.Proofs.Try.f34 := ⟨by kernel_rfl, rfl, by decide⟩
theorem c_impl_isId (n : Int) :
    Ctr Pg ty 34 [iv n] [] (Gives (vv (.bool (within n 1 99))) [] []) := by
  refine ctr at34 rfl (nsK_gives rfl trivial trivial) (Nat.le_of_ble_eq_true rfl) fun w0 S0 L0 Z => ?_
  refine vc_seq fun K1 hK1 => ?_
  refine vc_region ?_
  refine vl_q (q_assign rfl) (dk rfl) ?_
  refine vl_nil ?_
  refine hK1 _ ?_
  refine vc_seq fun K2 hK2 => ?_
  refine vc_region ?_
  refine vl_q (q_move rfl) (dk rfl) ?_
  refine vl_callP (c_impl_within _ _ _) rfl rfl ⟨XOk.val _, XOk.val _, XOk.val _, trivial⟩ rfl (.inl rfl) (dk rfl) ?_
  refine vl_q (q_assign rfl) (dk rfl) ?_
  refine vl_nil ?_
  refine hK2 _ ?_
  refine vc_ret ?_
  refine ret_p rfl (.cons (res_tmp rfl) .nil) rfl ?_
  rfl
end Go.Vm.S
namespace Go.Vm.S
open Go Go.Vm
set_option maxRecDepth 100000
set_option linter.unusedVariables false
set_option maxHeartbeats 4000000
theorem at29 : FnAt Pg 29 Go.Proofs.Try.f29 := ⟨by kernel_rfl, rfl, by decide⟩
theorem c_impl_byteText (n : Int) (h : 0 ≤ n ∧ n ≤ 255) :
    Ctr Pg ty 29 [iv n] [] (Gives (vv (.string (bstr [n]))) [] []) := by
  refine ctr at29 rfl (nsK_gives rfl trivial trivial) (Nat.le_of_ble_eq_true rfl) fun w0 S0 L0 Z => ?_
  refine vc_seq fun K1 hK1 => ?_
  refine vc_region ?_
  refine vl_q (q_assign rfl) (dk rfl) ?_
  refine vl_nil ?_
  refine hK1 _ ?_
  refine vc_seq fun K2 hK2 => ?_
  refine vc_region ?_
  refine vl_q (q_move rfl) (dk rfl) ?_
  refine vl_q (q_convInt rfl rfl rfl rfl (IntWalk.u8_in _ (by omega))) (dk rfl) ?_
  refine vl_bslice rfl rfl rfl rfl rfl rfl ⟨rfl, trivial⟩ (by decide) (by decide) (dk rfl) ?_
  refine vl_bytesStr (ns := [n]) rfl rfl rfl rfl rfl rfl (src_hdr (nd := ⟨1, [byteX n]⟩) (lo := 0) (n := 1) (xs := [n].map byteX) rfl rfl (Nat.le_refl _) rfl (bytes_plain _) (bytes_wid _)) (hdr_shape rfl rfl) (dk rfl) ?_
  refine vl_q (q_assign rfl) (dk rfl) ?_
  refine vl_nil ?_
  refine hK2 _ ?_
  refine vc_ret ?_
  refine ret_p rfl (.cons (res_tmp rfl) .nil) rfl ?_
  rfl
theorem at31 : FnAt Pg 31 Go.Proofs.Try.f31 := ⟨by kernel_rfl, rfl, by decide⟩
theorem c_spec_l05Byte (n : Int) (h : 0 ≤ n ∧ n ≤ 255) :
    Ctr Pg ty 31 [iv n] [] (Gives (vv (.string (bstr [n]))) [] []) := by
  refine ctr at31 rfl (nsK_gives rfl trivial trivial) (Nat.le_of_ble_eq_true rfl) fun w0 S0 L0 Z => ?_
  refine vc_seq fun K1 hK1 => ?_
  refine vc_region ?_
  refine vl_q (q_assign rfl) (dk rfl) ?_
  refine vl_nil ?_
  refine hK1 _ ?_
  refine vc_seq fun K2 hK2 => ?_
  refine vc_region ?_
  refine vl_q (q_move rfl) (dk rfl) ?_
  refine vl_q (q_rem rfl rfl (by first | decide | omega) (tmod_small h)) (dk rfl) ?_
  refine vl_q (q_assign rfl) (dk rfl) ?_
  refine vl_nil ?_
  refine hK2 _ ?_
  refine vc_seq fun K3 hK3 => ?_
  refine vc_seq fun K4 hK4 => ?_
  refine vc_region ?_
  refine vl_q (q_move rfl) (dk rfl) ?_
  refine vl_two (x := fun b => vv (.bool b)) _ (q_cmp rfl rfl rfl rfl) (dk rfl) (fun h6 => ?_) (fun h6 => ?_)
  · replace h6 := lss_of h6
    omega
  · replace h6 := lss_nof h6
    refine vl_nil ?_
    refine hK4 _ ?_
    refine vc_cond_false rfl ?_
    refine vc_skip ?_
    refine hK3 _ ?_
    refine vc_seq fun K5 hK5 => ?_
    refine vc_region ?_
    refine vl_q (q_move rfl) (dk rfl) ?_
    refine vl_q (q_convInt rfl rfl rfl rfl (IntWalk.u8_in _ (by omega))) (dk rfl) ?_
    refine vl_bslice rfl rfl rfl rfl rfl rfl ⟨rfl, trivial⟩ (by decide) (by decide) (dk rfl) ?_
    refine vl_bytesStr (ns := [n]) rfl rfl rfl rfl rfl rfl (src_hdr (nd := ⟨1, [byteX n]⟩) (lo := 0) (n := 1) (xs := [n].map byteX) rfl rfl (Nat.le_refl _) rfl (bytes_plain _) (bytes_wid _)) (hdr_shape rfl rfl) (dk rfl) ?_
    refine vl_q (q_assign rfl) (dk rfl) ?_
    refine vl_nil ?_
    refine hK5 _ ?_
    refine vc_ret ?_
    refine ret_p rfl (.cons (res_tmp rfl) .nil) rfl ?_
    rfl
theorem at11 : FnAt Pg 11 Go.Proofs.Try.f11 := ⟨by kernel_rfl, rfl, by decide⟩
theorem c_laws_sameTexts (a b : List ByteArray) :
    Ctr Pg ty 11 [shv 1 (a.map strC), shv 1 (b.map strC)] [] (Gives (vv (.bool (decide (a = b)))) [] []) := by
  refine ctr at11 rfl (nsK_gives rfl trivial trivial) (Nat.le_of_ble_eq_true rfl) fun w0 S0 L0 Z => ?_
  refine vc_seq fun K1 hK1 => ?_
  refine vc_region ?_
  refine vl_q (q_assign rfl) (dk rfl) ?_
  refine vl_nil ?_
  refine hK1 _ ?_
  refine vc_seq fun K2 hK2 => ?_
  refine vc_seq fun K3 hK3 => ?_
  refine vc_fact (fun a w g => good_lim (x := .tmp 0) rfl g) fun hla => ?_
  refine vc_fact (fun a w g => good_lim (x := .tmp 1) rfl g) fun hlb => ?_
  rw [List.length_map] at hla hlb
  refine vc_region ?_
  refine vl_q (q_move rfl) (dk rfl) ?_
  refine vl_q (q_len_sh rfl rfl rfl) (dk rfl) ?_
  refine vl_q (q_move rfl) (dk rfl) ?_
  refine vl_q (q_len_sh rfl rfl rfl) (dk rfl) ?_
  refine vl_two (x := fun b => vv (.bool b)) _ (q_cmp rfl rfl rfl rfl) (dk rfl) (fun h10 => ?_) (fun h10 => ?_)
  · replace h10 := neq_of h10
    simp only [List.length_map] at h10
    refine vl_nil ?_
    refine hK3 _ ?_
    refine vc_cond_true rfl ?_
    refine vc_seq fun K4 hK4 => ?_
    refine vc_region ?_
    refine vl_q (q_assign rfl) (dk rfl) ?_
    refine vl_nil ?_
    refine hK4 _ ?_
    refine vc_ret ?_
    refine ret_p rfl (.cons (res_tmp rfl) .nil) rfl ?_
    rw [decide_eq_false (ne_of_len h10)]; rfl
  · replace h10 := neq_nof h10
    simp only [List.length_map] at h10
    refine vl_nil ?_
    refine hK3 _ ?_
    refine vc_cond_false rfl ?_
    refine vc_skip ?_
    refine hK2 _ ?_
    refine vc_seq fun K5 hK5 => ?_
    refine vc_seq fun K6 hK6 => ?_
    refine vc_region ?_
    refine vl_q (q_assign rfl) (dk rfl) ?_
    refine vl_nil ?_
    refine hK6 _ ?_
    refine vc_block ?_
    refine vc_loop (fun mz st => ∃ i : Nat, (i ≤ a.length ∧ a.length = b.length ∧ a.take i = b.take i) ∧ mz = a.length - i ∧ st = mkSt [(0, .v (shv 1 (a.map strC))), (1, .v (shv 1 (b.map strC))), (5, .v (iv i))] [] 16) ⟨_, _, ⟨0, ⟨by omega, by omega, rfl⟩, rfl, rfl⟩, (Weak.cut _ _ _ (Nat.le_of_ble_eq_true rfl) ⟨⟨rfl, rfl⟩, ⟨rfl, rfl⟩, ⟨rfl, rfl⟩, trivial⟩ trivial rfl)⟩ (fun mz st hI => ?_)
    obtain ⟨i, ⟨hi, hl, ht⟩, hmz, rfl⟩ := hI
    refine vc_seq fun K7 hK7 => ?_
    refine vc_seq fun K8 hK8 => ?_
    refine vc_region ?_
    refine vl_q (q_move rfl) (dk rfl) ?_
    refine vl_q (q_move rfl) (dk rfl) ?_
    refine vl_q (q_len_sh rfl rfl rfl) (dk rfl) ?_
    refine vl_two (x := fun b => vv (.bool b)) _ (q_cmp rfl rfl rfl rfl) (dk rfl) (fun h14 => ?_) (fun h14 => ?_)
    · replace h14 := lss_of h14
      simp only [List.length_map] at h14
      refine vl_nil ?_
      refine hK8 _ ?_
      refine vc_cond_true rfl ?_
      refine vc_skip ?_
      refine hK7 _ ?_
      refine vc_seq fun K9 hK9 => ?_
      refine vc_block ?_
      refine vc_seq fun K10 hK10 => ?_
      have hia : i < a.length := by omega
      have hib : i < b.length := by omega
      refine vc_region_any mixed (fun n => false) true rfl rfl (fun _ hU11 => hU11) fun w1 S1 L1 Z1 H1 => ?_
      refine va_q 0 rfl (by kernel_rfl) (by kernel_rfl) (by kernel_rfl) (q_move rfl) (dk rfl) ?_
      refine va_q 1 rfl (by kernel_rfl) (by kernel_rfl) (by kernel_rfl) (q_move rfl) (dk rfl) ?_
      refine va_q 2 rfl (by kernel_rfl) (by kernel_rfl) (by kernel_rfl) (q_indexAddr_sh rfl rfl rfl rfl rfl rfl (by decide) (by omega) (get_map (i := i) hia)) (dk rfl) ?_
      refine va_q 3 rfl (by kernel_rfl) (by kernel_rfl) (by kernel_rfl) (q_load_sp rfl rfl rfl rfl rfl (by decide)) (dk rfl) ?_
      refine va_q 4 rfl (by kernel_rfl) (by kernel_rfl) (by kernel_rfl) (q_move rfl) (dk rfl) ?_
      refine va_q 5 rfl (by kernel_rfl) (by kernel_rfl) (by kernel_rfl) (q_move rfl) (dk rfl) ?_
      refine va_q 6 rfl (by kernel_rfl) (by kernel_rfl) (by kernel_rfl) (q_indexAddr_sh rfl rfl rfl rfl rfl rfl (by decide) (by omega) (get_map (i := i) hib)) (dk rfl) ?_
      refine va_q 7 rfl (by kernel_rfl) (by kernel_rfl) (by kernel_rfl) (q_load_sp rfl rfl rfl rfl rfl (by decide)) (dk rfl) ?_
      refine va_two 8 (x := fun b => vv (.bool b)) _ rfl (by kernel_rfl) (by kernel_rfl) (by kernel_rfl) (q_cmpS rfl rfl (.inr rfl) rfl) (dk rfl) (fun h25 => ?_) (fun h25 => ?_)
      · replace h25 := neqS_of h25
        refine va_done (by kernel_rfl) ?_
        refine hK10 _ ?_
        refine vc_cond_true rfl ?_
        refine vc_seq fun K12 hK12 => ?_
        refine vc_region ?_
        refine vl_q (q_assign rfl) (dk rfl) ?_
        refine vl_nil ?_
        refine hK12 _ ?_
        refine vc_ret ?_
        refine ret_p rfl (.cons (res_tmp rfl) .nil) rfl ?_
        rw [decide_eq_false (ne_of_get hia hib h25)]; rfl
      · replace h25 := neqS_nof h25
        refine va_done (by kernel_rfl) ?_
        refine hK10 _ ?_
        refine vc_cond_false rfl ?_
        refine vc_skip ?_
        refine hK9 _ ?_
        refine vc_region ?_
        refine vl_q (q_move rfl) (dk rfl) ?_
        refine vl_q (q_add rfl rfl (IntWalk.i64_in _ (by omega))) (dk rfl) ?_
        refine vl_q (q_assign rfl) (dk rfl) ?_
        refine vl_nil ?_
        refine ⟨_, _, ?_, ⟨i + 1, ⟨by omega, hl, take_succ_eq ht hia hib h25⟩, rfl, rfl⟩, (Weak.cut _ _ _ (Nat.le_of_ble_eq_true rfl) ⟨⟨rfl, rfl⟩, ⟨rfl, rfl⟩, ⟨rfl, rfl⟩, trivial⟩ trivial rfl)⟩
        omega
    · replace h14 := lss_nof h14
      simp only [List.length_map] at h14
      refine vl_nil ?_
      refine hK8 _ ?_
      refine vc_cond_false rfl ?_
      refine vc_exit ?_
      refine hK5 _ ?_
      refine vc_seq fun K13 hK13 => ?_
      refine vc_region ?_
      refine vl_q (q_assign rfl) (dk rfl) ?_
      refine vl_nil ?_
      refine hK13 _ ?_
      refine vc_ret ?_
      refine ret_p rfl (.cons (res_tmp rfl) .nil) rfl ?_
      rw [decide_eq_true (take_all ht (by omega) (by omega))]; rfl
end Go.Vm.S
namespace Go.Vm.S
open Go Go.Vm
set_option maxRecDepth 100000
set_option linter.unusedVariables false
set_option maxHeartbeats 4000000
theorem at10 : FnAt Pg 10 Go.Proofs.Try.f10 := ⟨by kernel_rfl, rfl, by decide⟩
theorem c_spec_Split (id : Int) (w : ByteArray) (sz : Nat) (hid : 0 ≤ id ∧ id ≤ 255) (hs : 20 ≤ sz ∧ sz ≤ 120) (hw : w.size ≤ 220) :
    Ctr Pg ty 10 [iv id, sv w, iv sz] [] (Gives (.tup [.one (.hdr 16 0 (nP w sz)), bv true]) [⟨1, clo ((pcs id w sz (nP w sz)).map strC)⟩] []) := by
  have hn := nP_le hw hs.1
  have hn' := nP_le' hw hs.1
  have hq := nP_cases w sz
  have hq0 : (0 : Int) ≤ (((w.size + sz - 1) / sz : Nat) : Int) := Int.natCast_nonneg _
  refine ctr at10 rfl (nsK_gives rfl ⟨nsN_map strC_noSh, trivial⟩ trivial) (Nat.le_of_ble_eq_true rfl) fun w0 S0 L0 Z => ?_
  refine vc_seq fun K1 hK1 => ?_
  refine vc_region ?_
  refine vl_q (q_assign rfl) (dk rfl) ?_
  refine vl_q (q_assign rfl) (dk rfl) ?_
  refine vl_nil ?_
  refine hK1 _ ?_
  refine vc_seq fun K2 hK2 => ?_
  refine vc_seq fun K3 hK3 => ?_
  refine vc_region ?_
  refine vl_q (q_move rfl) (dk rfl) ?_
  refine vl_callP (c_spec_l01In id 0 255) rfl rfl ⟨XOk.val _, XOk.val _, XOk.val _, trivial⟩ rfl (.inl rfl) (dk rfl) ?_
  refine vl_bool 13 rfl (fun h13 => ?_) (fun h13 => ?_)
  · refine vl_q (q_not rfl) (dk rfl) ?_
    refine vl_q (q_move rfl) (dk rfl) ?_
    refine vl_guard_on rfl rfl rfl ?_
    refine vl_q (q_move rfl) (dk rfl) ?_
    refine vl_guard_on rfl rfl rfl ?_
    refine vl_callP (c_spec_l01In sz 20 120) rfl rfl ⟨XOk.val _, XOk.val _, XOk.val _, trivial⟩ rfl (.inl rfl) (dk rfl) ?_
    refine vl_bool 17 rfl (fun h17 => ?_) (fun h17 => ?_)
    · refine vl_guard_on rfl rfl rfl ?_
      refine vl_q (q_not rfl) (dk rfl) ?_
      refine vl_q (q_pick_false rfl rfl) (dk rfl) ?_
      refine vl_q (q_move rfl) (dk rfl) ?_
      refine vl_guard_on rfl rfl rfl ?_
      refine vl_q (q_move rfl) (dk rfl) ?_
      refine vl_guard_on rfl rfl rfl ?_
      refine vl_q (q_len_str rfl rfl rfl) (dk rfl) ?_
      refine vl_guard_on rfl rfl rfl ?_
      refine vl_two (x := fun b => vv (.bool b)) _ (q_cmp rfl rfl rfl rfl) (dk rfl) (fun h23 => ?_) (fun h23 => ?_)
      · replace h23 := gtr_of h23
        omega
      · replace h23 := gtr_nof h23
        refine vl_q (q_pick_false rfl rfl) (dk rfl) ?_
        refine vl_nil ?_
        refine hK3 _ ?_
        refine vc_cond_false rfl ?_
        refine vc_skip ?_
        refine hK2 _ ?_
        refine vc_seq fun K4 hK4 => ?_
        refine vc_region ?_
        refine vl_q (q_move rfl) (dk rfl) ?_
        refine vl_q (q_len_str rfl rfl rfl) (dk rfl) ?_
        refine vl_q (q_move rfl) (dk rfl) ?_
        refine vl_q (q_add rfl rfl (IntWalk.i64_in _ (by omega))) (dk rfl) ?_
        refine vl_q (q_sub rfl rfl (IntWalk.i64_in _ (by omega))) (dk rfl) ?_
        refine vl_q (q_move rfl) (dk rfl) ?_
        refine vl_q (q_quo rfl rfl (by first | decide | omega) (quo_nat (by omega) (by omega) (by omega))) (dk rfl) ?_
        refine vl_q (q_assign rfl) (dk rfl) ?_
        refine vl_nil ?_
        refine hK4 _ ?_
        refine vc_join (fun st => (True) ∧ st = mkSt [(0, .v (iv id)), (1, .v (sv w)), (2, .v (iv sz)), (8, .v (iv (nP w sz)))] [] 16) (fun K5 hK5 => ?_) (fun st hI => ?_)
        · refine vc_seq fun K6 hK6 => ?_
          refine vc_region ?_
          refine vl_q (q_move rfl) (dk rfl) ?_
          refine vl_two (x := fun b => vv (.bool b)) _ (q_cmp rfl rfl rfl rfl) (dk rfl) (fun h34 => ?_) (fun h34 => ?_)
          · replace h34 := eql_of h34
            refine vl_nil ?_
            refine hK6 _ ?_
            refine vc_cond_true rfl ?_
            refine vc_region ?_
            refine vl_q (q_assign rfl) (dk rfl) ?_
            refine vl_nil ?_
            refine hK5 _ ?_
            exact ⟨_, ⟨trivial, rfl⟩, (Weak.cut _ _ _ (Nat.le_of_ble_eq_true rfl) ⟨⟨rfl, rfl⟩, ⟨rfl, rfl⟩, ⟨rfl, rfl⟩, ⟨(iv_eq (by omega)), rfl⟩, trivial⟩ trivial rfl)⟩
          · replace h34 := eql_nof h34
            refine vl_nil ?_
            refine hK6 _ ?_
            refine vc_cond_false rfl ?_
            refine vc_skip ?_
            refine hK5 _ ?_
            exact ⟨_, ⟨trivial, rfl⟩, (Weak.cut _ _ _ (Nat.le_of_ble_eq_true rfl) ⟨⟨rfl, rfl⟩, ⟨rfl, rfl⟩, ⟨rfl, rfl⟩, ⟨(iv_eq (by omega)), rfl⟩, trivial⟩ trivial rfl)⟩
        obtain ⟨_, rfl⟩ := hI
        refine vc_seq fun K7 hK7 => ?_
        refine vc_seq fun K8 hK8 => ?_
        refine vc_region ?_
        refine vl_q (q_move rfl) (dk rfl) ?_
        refine vl_two (x := fun b => vv (.bool b)) _ (q_cmp rfl rfl rfl rfl) (dk rfl) (fun h36 => ?_) (fun h36 => ?_)
        · replace h36 := gtr_of h36
          omega
        · replace h36 := gtr_nof h36
          refine vl_nil ?_
          refine hK8 _ ?_
          refine vc_cond_false rfl ?_
          refine vc_skip ?_
          refine hK7 _ ?_
          refine vc_seq fun K9 hK9 => ?_
          refine vc_region ?_
          refine vl_bslice rfl rfl rfl rfl rfl rfl trivial (by decide) (by decide) (dk rfl) ?_
          refine vl_q (q_assign rfl) (dk rfl) ?_
          refine vl_nil ?_
          refine hK9 _ ?_
          refine vc_seq fun K10 hK10 => ?_
          refine vc_seq fun K11 hK11 => ?_
          refine vc_region ?_
          refine vl_q (q_assign rfl) (dk rfl) ?_
          refine vl_nil ?_
          refine hK11 _ ?_
          refine vc_block ?_
          refine vc_loop (fun mz st => ∃ i : Nat, (i ≤ nP w sz) ∧ mz = nP w sz - i ∧ st = mkSt [(0, .v (iv id)), (1, .v (sv w)), (2, .v (iv sz)), (8, .v (iv (nP w sz))), (9, .v (.one (.hdr 16 0 i))), (10, .v (iv i))] [(16, ⟨1, clo ((pcs id w sz i).map strC)⟩)] 17) ⟨_, _, ⟨0, by omega, rfl, rfl⟩, (Weak.cut _ _ _ (Nat.le_of_ble_eq_true rfl) ⟨⟨rfl, rfl⟩, ⟨rfl, rfl⟩, ⟨rfl, rfl⟩, ⟨rfl, rfl⟩, ⟨rfl, rfl⟩, ⟨rfl, rfl⟩, trivial⟩ ⟨⟨Nat.le_of_ble_eq_true rfl, rfl, belN_clo _ _ _⟩, trivial⟩ rfl)⟩ (fun mz st hI => ?_)
          obtain ⟨i, hi, hmz, rfl⟩ := hI
          refine vc_seq fun K12 hK12 => ?_
          refine vc_seq fun K13 hK13 => ?_
          refine vc_region ?_
          refine vl_q (q_move rfl) (dk rfl) ?_
          refine vl_q (q_move rfl) (dk rfl) ?_
          refine vl_two (x := fun b => vv (.bool b)) _ (q_cmp rfl rfl rfl rfl) (dk rfl) (fun h41 => ?_) (fun h41 => ?_)
          · replace h41 := lss_of h41
            refine vl_nil ?_
            refine hK13 _ ?_
            refine vc_cond_true rfl ?_
            refine vc_skip ?_
            refine hK12 _ ?_
            refine vc_seq fun K14 hK14 => ?_
            refine vc_block ?_
            refine vc_seq fun K15 hK15 => ?_
            have hi2 : i < nP w sz := by omega
            have hi1 := pc_le hi2 (by omega : 0 < sz)
            have hi3 : (i + 1) * sz = i * sz + sz := by rw [Nat.add_mul, Nat.one_mul]
            have hi4 : (i : Int) * (sz : Int) = ((i * sz : Nat) : Int) := by rw [Int.natCast_mul]
            have hi5 : ((i : Int) + 1) * (sz : Int) = (((i + 1) * sz : Nat) : Int) := by rw [Int.natCast_mul]; rfl
            have hi6 : i * sz ≤ 15 * 120 := Nat.mul_le_mul (by omega) hs.2
            generalize hA : i * sz = A at *
            generalize hB : (i + 1) * sz = B at *
            refine vc_region ?_
            refine vl_q (q_move rfl) (dk rfl) ?_
            refine vl_q (q_add rfl rfl (IntWalk.i64_in _ (by omega))) (dk rfl) ?_
            refine vl_q (q_move rfl) (dk rfl) ?_
            refine vl_q (q_mul rfl rfl ((congrArg IntKind.i64.wrap hi5).trans (IntWalk.i64_in _ (by omega)))) (dk rfl) ?_
            refine vl_q (q_assign rfl) (dk rfl) ?_
            refine vl_nil ?_
            refine hK15 _ ?_
            refine vc_join (fun st => (True) ∧ st = mkSt [(0, .v (iv id)), (1, .v (sv w)), (2, .v (iv sz)), (8, .v (iv (nP w sz))), (9, .v (.one (.hdr 16 0 i))), (10, .v (iv i)), (11, .v (iv (min B w.size : Nat)))] [(16, ⟨1, clo ((pcs id w sz i).map strC)⟩)] 17) (fun K16 hK16 => ?_) (fun st hI => ?_)
            · refine vc_seq fun K17 hK17 => ?_
              refine vc_region ?_
              refine vl_q (q_move rfl) (dk rfl) ?_
              refine vl_q (q_move rfl) (dk rfl) ?_
              refine vl_q (q_len_str rfl rfl rfl) (dk rfl) ?_
              refine vl_two (x := fun b => vv (.bool b)) _ (q_cmp rfl rfl rfl rfl) (dk rfl) (fun h51 => ?_) (fun h51 => ?_)
              · replace h51 := gtr_of h51
                refine vl_nil ?_
                refine hK17 _ ?_
                refine vc_cond_true rfl ?_
                refine vc_region ?_
                refine vl_q (q_move rfl) (dk rfl) ?_
                refine vl_q (q_len_str rfl rfl rfl) (dk rfl) ?_
                refine vl_q (q_assign rfl) (dk rfl) ?_
                refine vl_nil ?_
                refine hK16 _ ?_
                exact ⟨_, ⟨trivial, rfl⟩, (Weak.cut _ _ _ (Nat.le_of_ble_eq_true rfl) ⟨⟨rfl, rfl⟩, ⟨rfl, rfl⟩, ⟨rfl, rfl⟩, ⟨rfl, rfl⟩, ⟨rfl, rfl⟩, ⟨rfl, rfl⟩, ⟨(iv_eq (by omega)), rfl⟩, trivial⟩ ⟨⟨Nat.le_of_ble_eq_true rfl, rfl, belN_clo _ _ _⟩, trivial⟩ rfl)⟩
              · replace h51 := gtr_nof h51
                refine vl_nil ?_
                refine hK17 _ ?_
                refine vc_cond_false rfl ?_
                refine vc_skip ?_
                refine hK16 _ ?_
                exact ⟨_, ⟨trivial, rfl⟩, (Weak.cut _ _ _ (Nat.le_of_ble_eq_true rfl) ⟨⟨rfl, rfl⟩, ⟨rfl, rfl⟩, ⟨rfl, rfl⟩, ⟨rfl, rfl⟩, ⟨rfl, rfl⟩, ⟨rfl, rfl⟩, ⟨(iv_eq (by omega)), rfl⟩, trivial⟩ ⟨⟨Nat.le_of_ble_eq_true rfl, rfl, belN_clo _ _ _⟩, trivial⟩ rfl)⟩
            obtain ⟨_, rfl⟩ := hI
            refine vc_region_any mixed (fun n => false) true rfl rfl (fun _ hU18 => hU18) fun w1 S1 L1 Z1 H1 => ?_
            refine va_q 0 rfl (by kernel_rfl) (by kernel_rfl) (by kernel_rfl) (q_move rfl) (dk rfl) ?_
            refine va_q 1 rfl (by kernel_rfl) (by kernel_rfl) (by kernel_rfl) (q_move rfl) (dk rfl) ?_
            refine va_q 3 rfl (by kernel_rfl) (by kernel_rfl) (by kernel_rfl) (q_move rfl) (dk rfl) ?_
            refine va_q 6 rfl (by kernel_rfl) (by kernel_rfl) (by kernel_rfl) (q_move rfl) (dk rfl) ?_
            refine va_q 9 rfl (by kernel_rfl) (by kernel_rfl) (by kernel_rfl) (q_move rfl) (dk rfl) ?_
            refine va_q 10 rfl (by kernel_rfl) (by kernel_rfl) (by kernel_rfl) (q_move rfl) (dk rfl) ?_
            refine va_q 11 rfl (by kernel_rfl) (by kernel_rfl) (by kernel_rfl) (q_move rfl) (dk rfl) ?_
            refine va_q 12 rfl (by kernel_rfl) (by kernel_rfl) (by kernel_rfl) (q_mul rfl rfl ((congrArg IntKind.i64.wrap hi4).trans (IntWalk.i64_in _ (by omega)))) (dk rfl) ?_
            refine va_q 13 rfl (by kernel_rfl) (by kernel_rfl) (by kernel_rfl) (q_move rfl) (dk rfl) ?_
            refine va_q 14 rfl (by kernel_rfl) (by kernel_rfl) (by kernel_rfl) (q_slice_str rfl rfl rfl rfl rfl (by omega) (by omega) (by omega)) (dk rfl) ?_
            refine va_all [2] (by kernel_rfl) (by simp) ⟨⟨_, rfl, ?_⟩, trivial⟩
            refine vl_callP (c_spec_l05Byte _ (by omega)) rfl rfl ⟨XOk.val _, trivial⟩ rfl (.inr rfl) (dk rfl) ?_
            refine vl_nil ?_
            refine va_all [4] (by kernel_rfl) (by simp) ⟨⟨_, rfl, ?_⟩, trivial⟩
            refine vl_callP (c_spec_l05Byte _ (by omega)) rfl rfl ⟨XOk.val _, trivial⟩ rfl (.inr rfl) (dk rfl) ?_
            refine vl_nil ?_
            refine va_q 5 rfl (by kernel_rfl) (by kernel_rfl) (by kernel_rfl) (q_cat rfl rfl (by rw [bstr_size1, bstr_size1]; decide)) (dk rfl) ?_
            refine va_all [7] (by kernel_rfl) (by simp) ⟨⟨_, rfl, ?_⟩, trivial⟩
            refine vl_callP (c_spec_l05Byte _ (by omega)) rfl rfl ⟨XOk.val _, trivial⟩ rfl (.inr rfl) (dk rfl) ?_
            refine vl_nil ?_
            refine va_q 8 rfl (by kernel_rfl) (by kernel_rfl) (by kernel_rfl) (q_cat rfl rfl (by rw [ByteArray.size_append, bstr_size1, bstr_size1, bstr_size1]; decide)) (dk rfl) ?_
            refine va_q 15 rfl (by kernel_rfl) (by kernel_rfl) (by kernel_rfl) (q_cat rfl rfl (by simp only [ByteArray.size_append, bstr_size1, ByteArray.size_extract]; omega)) (dk rfl) ?_
            refine va_all [16] (by kernel_rfl) (by simp) ⟨⟨_, rfl, ?_⟩, trivial⟩
            refine vl_bslice rfl rfl rfl rfl rfl rfl ⟨rfl, trivial⟩ (by decide) (by decide) (dk rfl) ?_
            refine vl_nil ?_
            refine va_all [17] (by kernel_rfl) (by simp) ⟨⟨_, rfl, ?_⟩, trivial⟩
            refine vl_append rfl rfl rfl rfl (fun _ h => TypeDesc.noConfusion h) rfl rfl rfl (by simp [clo, pcs_len]) (src_row rfl rfl rfl rfl) (by show (_ + 1) * 16 ≤ _; omega) (by show _ + 1 < _; omega) (dk rfl) ?_
            refine vl_nil ?_
            refine va_q 18 rfl (by kernel_rfl) (by kernel_rfl) (by kernel_rfl) (q_assign rfl) (dk rfl) ?_
            refine va_done (by kernel_rfl) ?_
            refine hK14 _ ?_
            refine vc_region ?_
            refine vl_q (q_move rfl) (dk rfl) ?_
            refine vl_q (q_add rfl rfl (IntWalk.i64_in _ (by omega))) (dk rfl) ?_
            refine vl_q (q_assign rfl) (dk rfl) ?_
            refine vl_nil ?_
            refine ⟨_, _, ?_, ⟨i + 1, by omega, rfl, rfl⟩, (Weak.to (fun n => bif Nat.beq n 16 then 18 else n) _ _ _ (Nat.le_of_ble_eq_true rfl) (fun n hn => sgm_lo hn (Nat.le_of_ble_eq_true rfl) (rfl)) ⟨⟨rfl, rfl⟩, ⟨rfl, rfl⟩, ⟨rfl, rfl⟩, ⟨rfl, rfl⟩, ⟨rfl, rfl⟩, ⟨rfl, rfl⟩, trivial⟩ ⟨⟨Nat.le_of_ble_eq_true rfl, _, some_node (pcs_next (l := (A : Int).toNat) (h := ((min B w.size : Nat) : Int).toNat) (by omega) (by rw [hB]; omega)), NR.clo _ _ _ _⟩, trivial⟩ (nodupB_ok rfl))⟩
            omega
          · replace h41 := lss_nof h41
            refine vl_nil ?_
            refine hK13 _ ?_
            refine vc_cond_false rfl ?_
            refine vc_exit ?_
            refine hK10 _ ?_
            refine vc_seq fun K19 hK19 => ?_
            obtain rfl : i = nP w sz := by omega
            refine vc_region ?_
            refine vl_q (q_move rfl) (dk rfl) ?_
            refine vl_q (q_assign rfl) (dk rfl) ?_
            refine vl_q (q_assign rfl) (dk rfl) ?_
            refine vl_nil ?_
            refine hK19 _ ?_
            refine vc_ret ?_
            refine ret_g [16] rfl (.cons (res_tmp rfl) (.cons (res_tmp rfl) .nil)) rfl rfl (nodupB_ok rfl) ⟨by decide, trivial⟩ ⟨⟨_, rfl, NR.clo _ _ _ _⟩, trivial⟩ trivial (Nat.zero_le _)
    · rw [within_t (by omega) (by omega)] at h17; cases h17
  · rw [within_t hid.1 hid.2] at h13; cases h13
end Go.Vm.S
namespace Go.Vm.S
open Go Go.Vm
set_option maxRecDepth 100000
set_option linter.unusedVariables false
set_option maxHeartbeats 4000000
theorem at13 : FnAt Pg 13 Go.Proofs.Try.f13 := ⟨by kernel_rfl, rfl, by decide⟩
theorem c_impl_ReadPart (t : ByteArray) :
    Ctr Pg ty 13 [sv t] [] (Gives (rpT t) [] []) := by
  refine ctr at13 rfl (nsK_gives (rpT_ns t) trivial trivial) (Nat.le_of_ble_eq_true rfl) fun w0 S0 L0 Z => ?_
  refine vc_seq fun K1 hK1 => ?_
  refine vc_region ?_
  refine vl_q (q_assign rfl) (dk rfl) ?_
  refine vl_q (q_assign rfl) (dk rfl) ?_
  refine vl_q (q_assign rfl) (dk rfl) ?_
  refine vl_q (q_assign rfl) (dk rfl) ?_
  refine vl_q (q_assign rfl) (dk rfl) ?_
  refine vl_nil ?_
  refine hK1 _ ?_
  refine vc_seq fun K2 hK2 => ?_
  refine vc_seq fun K3 hK3 => ?_
  refine vc_region_any mixed (fun n => false) true rfl rfl (fun _ hU4 => hU4) fun w1 S1 L1 Z1 H1 => ?_
  refine va_q 0 rfl (by kernel_rfl) (by kernel_rfl) (by kernel_rfl) (q_move rfl) (dk rfl) ?_
  refine va_q 1 rfl (by kernel_rfl) (by kernel_rfl) (by kernel_rfl) (q_len_str rfl rfl rfl) (dk rfl) ?_
  refine va_two 2 (x := fun b => vv (.bool b)) _ rfl (by kernel_rfl) (by kernel_rfl) (by kernel_rfl) (q_cmp rfl rfl rfl rfl) (dk rfl) (fun h9 => ?_) (fun h9 => ?_)
  · replace h9 := lss_of h9
    refine va_q 3 rfl (by kernel_rfl) (by kernel_rfl) (by kernel_rfl) (q_move rfl) (dk rfl) ?_
    refine va_goff 4 rfl rfl rfl rfl (by decide) (by kernel_rfl) (by kernel_rfl) (by kernel_rfl) (dk rfl) ?_
    refine va_goff 5 rfl rfl rfl rfl (by decide) (by kernel_rfl) (by kernel_rfl) (by kernel_rfl) (dk rfl) ?_
    refine va_goff 6 rfl rfl rfl rfl (by decide) (by kernel_rfl) (by kernel_rfl) (by kernel_rfl) (dk rfl) ?_
    refine va_goff 7 rfl rfl rfl rfl (by decide) (by kernel_rfl) (by kernel_rfl) (by kernel_rfl) (dk rfl) ?_
    refine va_goff 8 rfl rfl rfl rfl (by decide) (by kernel_rfl) (by kernel_rfl) (by kernel_rfl) (dk rfl) ?_
    refine va_q 9 rfl (by kernel_rfl) (by kernel_rfl) (by kernel_rfl) (q_pick_true rfl rfl) (dk rfl) ?_
    refine va_q 10 rfl (by kernel_rfl) (by kernel_rfl) (by kernel_rfl) (q_move rfl) (dk rfl) ?_
    refine va_goff 11 rfl rfl rfl rfl (by decide) (by kernel_rfl) (by kernel_rfl) (by kernel_rfl) (dk rfl) ?_
    refine va_goff 12 rfl rfl rfl rfl (by decide) (by kernel_rfl) (by kernel_rfl) (by kernel_rfl) (dk rfl) ?_
    refine va_goff 13 rfl rfl rfl rfl (by decide) (by kernel_rfl) (by kernel_rfl) (by kernel_rfl) (dk rfl) ?_
    refine va_goff 14 rfl rfl rfl rfl (by decide) (by kernel_rfl) (by kernel_rfl) (by kernel_rfl) (dk rfl) ?_
    refine va_goff 15 rfl rfl rfl rfl (by decide) (by kernel_rfl) (by kernel_rfl) (by kernel_rfl) (dk rfl) ?_
    refine va_q 16 rfl (by kernel_rfl) (by kernel_rfl) (by kernel_rfl) (q_pick_true rfl rfl) (dk rfl) ?_
    refine va_done (by kernel_rfl) ?_
    refine hK3 _ ?_
    refine vc_cond_true rfl ?_
    refine vc_seq fun K5 hK5 => ?_
    refine vc_region ?_
    refine vl_q (q_assign rfl) (dk rfl) ?_
    refine vl_q (q_assign rfl) (dk rfl) ?_
    refine vl_q (q_assign rfl) (dk rfl) ?_
    refine vl_q (q_assign rfl) (dk rfl) ?_
    refine vl_q (q_assign rfl) (dk rfl) ?_
    refine vl_nil ?_
    refine hK5 _ ?_
    refine vc_ret ?_
    refine ret_p rfl (.cons (res_tmp rfl) (.cons (res_tmp rfl) (.cons (res_tmp rfl) (.cons (res_tmp rfl) (.cons (res_tmp rfl) .nil))))) (rpT_bel t) ?_
    try simp only [show Int.toNat 0 = 0 from rfl, show Int.toNat 1 = 1 from rfl, show Int.toNat 2 = 2 from rfl] at *
    first | (rw [rpT_t (by omega) h14 (by omega)]; rfl) | (rw [rpT_f (by first | exact .inl (by omega) | exact .inr (.inl h14) | exact .inr (.inr (by omega)))]; rfl)
  · replace h9 := lss_nof h9
    refine va_q 3 rfl (by kernel_rfl) (by kernel_rfl) (by kernel_rfl) (q_move rfl) (dk rfl) ?_
    refine va_qg 4 rfl rfl rfl rfl (by kernel_rfl) (by kernel_rfl) (by kernel_rfl) (q_move rfl) (dk rfl) ?_
    refine va_qg 5 rfl rfl rfl rfl (by kernel_rfl) (by kernel_rfl) (by kernel_rfl) (q_index_str rfl rfl rfl rfl (by omega) (by omega)) (dk rfl) ?_
    refine va_qg 6 rfl rfl rfl rfl (by kernel_rfl) (by kernel_rfl) (by kernel_rfl) (q_convInt rfl rfl rfl rfl (IntWalk.i64_in _ (by have := byteAt_lt t (Int.toNat 2); omega))) (dk rfl) ?_
    refine va_all [7] (by kernel_rfl) (by simp) ⟨⟨_, rfl, ?_⟩, trivial⟩
    refine vl_guard_on rfl rfl rfl ?_
    refine vl_callP (c_impl_within (byteAt t 2) 1 15) rfl rfl ⟨XOk.val _, XOk.val _, XOk.val _, trivial⟩ rfl (.inr rfl) (dk rfl) ?_
    refine vl_bool 14 rfl (fun h14 => ?_) (fun h14 => ?_)
    · refine vl_nil ?_
      refine va_qg 8 rfl rfl rfl rfl (by kernel_rfl) (by kernel_rfl) (by kernel_rfl) (q_not rfl) (dk rfl) ?_
      refine va_q 9 rfl (by kernel_rfl) (by kernel_rfl) (by kernel_rfl) (q_pick_false rfl rfl) (dk rfl) ?_
      refine va_q 10 rfl (by kernel_rfl) (by kernel_rfl) (by kernel_rfl) (q_move rfl) (dk rfl) ?_
      refine va_qg 11 rfl rfl rfl rfl (by kernel_rfl) (by kernel_rfl) (by kernel_rfl) (q_move rfl) (dk rfl) ?_
      refine va_qg 12 rfl rfl rfl rfl (by kernel_rfl) (by kernel_rfl) (by kernel_rfl) (q_index_str rfl rfl rfl rfl (by omega) (by omega)) (dk rfl) ?_
      refine va_qg 13 rfl rfl rfl rfl (by kernel_rfl) (by kernel_rfl) (by kernel_rfl) (q_move rfl) (dk rfl) ?_
      refine va_qg 14 rfl rfl rfl rfl (by kernel_rfl) (by kernel_rfl) (by kernel_rfl) (q_index_str rfl rfl rfl rfl (by omega) (by omega)) (dk rfl) ?_
      refine va_twog 15 (x := fun b => vv (.bool b)) _ rfl rfl rfl rfl (by kernel_rfl) (by kernel_rfl) (by kernel_rfl) (q_cmp rfl rfl rfl rfl) (dk rfl) (fun h22 => ?_) (fun h22 => ?_)
      · replace h22 := geq_of h22
        refine va_q 16 rfl (by kernel_rfl) (by kernel_rfl) (by kernel_rfl) (q_pick_false rfl rfl) (dk rfl) ?_
        refine va_done (by kernel_rfl) ?_
        refine hK3 _ ?_
        refine vc_cond_true rfl ?_
        refine vc_seq fun K6 hK6 => ?_
        refine vc_region ?_
        refine vl_q (q_assign rfl) (dk rfl) ?_
        refine vl_q (q_assign rfl) (dk rfl) ?_
        refine vl_q (q_assign rfl) (dk rfl) ?_
        refine vl_q (q_assign rfl) (dk rfl) ?_
        refine vl_q (q_assign rfl) (dk rfl) ?_
        refine vl_nil ?_
        refine hK6 _ ?_
        refine vc_ret ?_
        refine ret_p rfl (.cons (res_tmp rfl) (.cons (res_tmp rfl) (.cons (res_tmp rfl) (.cons (res_tmp rfl) (.cons (res_tmp rfl) .nil))))) (rpT_bel t) ?_
        try simp only [show Int.toNat 0 = 0 from rfl, show Int.toNat 1 = 1 from rfl, show Int.toNat 2 = 2 from rfl] at *
        first | (rw [rpT_t (by omega) h14 (by omega)]; rfl) | (rw [rpT_f (by first | exact .inl (by omega) | exact .inr (.inl h14) | exact .inr (.inr (by omega)))]; rfl)
      · replace h22 := geq_nof h22
        refine va_q 16 rfl (by kernel_rfl) (by kernel_rfl) (by kernel_rfl) (q_pick_false rfl rfl) (dk rfl) ?_
        refine va_done (by kernel_rfl) ?_
        refine hK3 _ ?_
        refine vc_cond_false rfl ?_
        refine vc_skip ?_
        refine hK2 _ ?_
        refine vc_seq fun K7 hK7 => ?_
        refine vc_region_any mixed (fun n => false) true rfl rfl (fun _ hU8 => hU8) fun w1 S1 L1 Z1 H1 => ?_
        refine va_q 0 rfl (by kernel_rfl) (by kernel_rfl) (by kernel_rfl) (q_move rfl) (dk rfl) ?_
        refine va_q 1 rfl (by kernel_rfl) (by kernel_rfl) (by kernel_rfl) (q_index_str rfl rfl rfl rfl (by omega) (by omega)) (dk rfl) ?_
        refine va_q 2 rfl (by kernel_rfl) (by kernel_rfl) (by kernel_rfl) (q_convInt rfl rfl rfl rfl (IntWalk.i64_in _ (by have := byteAt_lt t (Int.toNat 0); omega))) (dk rfl) ?_
        refine va_q 3 rfl (by kernel_rfl) (by kernel_rfl) (by kernel_rfl) (q_move rfl) (dk rfl) ?_
        refine va_q 4 rfl (by kernel_rfl) (by kernel_rfl) (by kernel_rfl) (q_index_str rfl rfl rfl rfl (by omega) (by omega)) (dk rfl) ?_
        refine va_q 5 rfl (by kernel_rfl) (by kernel_rfl) (by kernel_rfl) (q_convInt rfl rfl rfl rfl (IntWalk.i64_in _ (by have := byteAt_lt t (Int.toNat 1); omega))) (dk rfl) ?_
        refine va_q 6 rfl (by kernel_rfl) (by kernel_rfl) (by kernel_rfl) (q_move rfl) (dk rfl) ?_
        refine va_q 7 rfl (by kernel_rfl) (by kernel_rfl) (by kernel_rfl) (q_index_str rfl rfl rfl rfl (by omega) (by omega)) (dk rfl) ?_
        refine va_q 8 rfl (by kernel_rfl) (by kernel_rfl) (by kernel_rfl) (q_convInt rfl rfl rfl rfl (IntWalk.i64_in _ (by have := byteAt_lt t (Int.toNat 2); omega))) (dk rfl) ?_
        refine va_q 9 rfl (by kernel_rfl) (by kernel_rfl) (by kernel_rfl) (q_move rfl) (dk rfl) ?_
        refine va_q 10 rfl (by kernel_rfl) (by kernel_rfl) (by kernel_rfl) (q_slice_str rfl rfl rfl rfl rfl (by omega) (by omega) (by omega)) (dk rfl) ?_
        refine va_q 11 rfl (by kernel_rfl) (by kernel_rfl) (by kernel_rfl) (q_assign rfl) (dk rfl) ?_
        refine va_q 12 rfl (by kernel_rfl) (by kernel_rfl) (by kernel_rfl) (q_assign rfl) (dk rfl) ?_
        refine va_q 13 rfl (by kernel_rfl) (by kernel_rfl) (by kernel_rfl) (q_assign rfl) (dk rfl) ?_
        refine va_q 14 rfl (by kernel_rfl) (by kernel_rfl) (by kernel_rfl) (q_assign rfl) (dk rfl) ?_
        refine va_q 15 rfl (by kernel_rfl) (by kernel_rfl) (by kernel_rfl) (q_assign rfl) (dk rfl) ?_
        refine va_done (by kernel_rfl) ?_
        refine hK7 _ ?_
        refine vc_ret ?_
        refine ret_p rfl (.cons (res_tmp rfl) (.cons (res_tmp rfl) (.cons (res_tmp rfl) (.cons (res_tmp rfl) (.cons (res_tmp rfl) .nil))))) (rpT_bel t) ?_
        try simp only [show Int.toNat 0 = 0 from rfl, show Int.toNat 1 = 1 from rfl, show Int.toNat 2 = 2 from rfl] at *
        first | (rw [rpT_t (by omega) h14 (by omega)]; rfl) | (rw [rpT_f (by first | exact .inl (by omega) | exact .inr (.inl h14) | exact .inr (.inr (by omega)))]; rfl)
    · refine vl_nil ?_
      refine va_qg 8 rfl rfl rfl rfl (by kernel_rfl) (by kernel_rfl) (by kernel_rfl) (q_not rfl) (dk rfl) ?_
      refine va_q 9 rfl (by kernel_rfl) (by kernel_rfl) (by kernel_rfl) (q_pick_false rfl rfl) (dk rfl) ?_
      refine va_q 10 rfl (by kernel_rfl) (by kernel_rfl) (by kernel_rfl) (q_move rfl) (dk rfl) ?_
      refine va_goff 11 rfl rfl rfl rfl (by decide) (by kernel_rfl) (by kernel_rfl) (by kernel_rfl) (dk rfl) ?_
      refine va_goff 12 rfl rfl rfl rfl (by decide) (by kernel_rfl) (by kernel_rfl) (by kernel_rfl) (dk rfl) ?_
      refine va_goff 13 rfl rfl rfl rfl (by decide) (by kernel_rfl) (by kernel_rfl) (by kernel_rfl) (dk rfl) ?_
      refine va_goff 14 rfl rfl rfl rfl (by decide) (by kernel_rfl) (by kernel_rfl) (by kernel_rfl) (dk rfl) ?_
      refine va_goff 15 rfl rfl rfl rfl (by decide) (by kernel_rfl) (by kernel_rfl) (by kernel_rfl) (dk rfl) ?_
      refine va_q 16 rfl (by kernel_rfl) (by kernel_rfl) (by kernel_rfl) (q_pick_true rfl rfl) (dk rfl) ?_
      refine va_done (by kernel_rfl) ?_
      refine hK3 _ ?_
      refine vc_cond_true rfl ?_
      refine vc_seq fun K9 hK9 => ?_
      refine vc_region ?_
      refine vl_q (q_assign rfl) (dk rfl) ?_
      refine vl_q (q_assign rfl) (dk rfl) ?_
      refine vl_q (q_assign rfl) (dk rfl) ?_
      refine vl_q (q_assign rfl) (dk rfl) ?_
      refine vl_q (q_assign rfl) (dk rfl) ?_
      refine vl_nil ?_
      refine hK9 _ ?_
      refine vc_ret ?_
      refine ret_p rfl (.cons (res_tmp rfl) (.cons (res_tmp rfl) (.cons (res_tmp rfl) (.cons (res_tmp rfl) (.cons (res_tmp rfl) .nil))))) (rpT_bel t) ?_
      try simp only [show Int.toNat 0 = 0 from rfl, show Int.toNat 1 = 1 from rfl, show Int.toNat 2 = 2 from rfl] at *
      first | (rw [rpT_t (by omega) h14 (by omega)]; rfl) | (rw [rpT_f (by first | exact .inl (by omega) | exact .inr (.inl h14) | exact .inr (.inr (by omega)))]; rfl)
theorem at49 : FnAt Pg 49 Go.Proofs.Try.f49 := ⟨by kernel_rfl, rfl, by decide⟩
theorem c_spec_ReadPart (t : ByteArray) :
    Ctr Pg ty 49 [sv t] [] (Gives (rpT t) [] []) := by
  refine ctr at49 rfl (nsK_gives (rpT_ns t) trivial trivial) (Nat.le_of_ble_eq_true rfl) fun w0 S0 L0 Z => ?_
  refine vc_seq fun K1 hK1 => ?_
  refine vc_region ?_
  refine vl_q (q_assign rfl) (dk rfl) ?_
  refine vl_q (q_assign rfl) (dk rfl) ?_
  refine vl_q (q_assign rfl) (dk rfl) ?_
  refine vl_q (q_assign rfl) (dk rfl) ?_
  refine vl_q (q_assign rfl) (dk rfl) ?_
  refine vl_nil ?_
  refine hK1 _ ?_
  refine vc_seq fun K2 hK2 => ?_
  refine vc_seq fun K3 hK3 => ?_
  refine vc_region_any mixed (fun n => false) true rfl rfl (fun _ hU4 => hU4) fun w1 S1 L1 Z1 H1 => ?_
  refine va_q 0 rfl (by kernel_rfl) (by kernel_rfl) (by kernel_rfl) (q_move rfl) (dk rfl) ?_
  refine va_q 1 rfl (by kernel_rfl) (by kernel_rfl) (by kernel_rfl) (q_len_str rfl rfl rfl) (dk rfl) ?_
  refine va_two 2 (x := fun b => vv (.bool b)) _ rfl (by kernel_rfl) (by kernel_rfl) (by kernel_rfl) (q_cmp rfl rfl rfl rfl) (dk rfl) (fun h9 => ?_) (fun h9 => ?_)
  · replace h9 := lss_of h9
    refine va_q 3 rfl (by kernel_rfl) (by kernel_rfl) (by kernel_rfl) (q_move rfl) (dk rfl) ?_
    refine va_goff 4 rfl rfl rfl rfl (by decide) (by kernel_rfl) (by kernel_rfl) (by kernel_rfl) (dk rfl) ?_
    refine va_goff 5 rfl rfl rfl rfl (by decide) (by kernel_rfl) (by kernel_rfl) (by kernel_rfl) (dk rfl) ?_
    refine va_goff 6 rfl rfl rfl rfl (by decide) (by kernel_rfl) (by kernel_rfl) (by kernel_rfl) (dk rfl) ?_
    refine va_goff 7 rfl rfl rfl rfl (by decide) (by kernel_rfl) (by kernel_rfl) (by kernel_rfl) (dk rfl) ?_
    refine va_goff 8 rfl rfl rfl rfl (by decide) (by kernel_rfl) (by kernel_rfl) (by kernel_rfl) (dk rfl) ?_
    refine va_q 9 rfl (by kernel_rfl) (by kernel_rfl) (by kernel_rfl) (q_pick_true rfl rfl) (dk rfl) ?_
    refine va_q 10 rfl (by kernel_rfl) (by kernel_rfl) (by kernel_rfl) (q_move rfl) (dk rfl) ?_
    refine va_goff 11 rfl rfl rfl rfl (by decide) (by kernel_rfl) (by kernel_rfl) (by kernel_rfl) (dk rfl) ?_
    refine va_goff 12 rfl rfl rfl rfl (by decide) (by kernel_rfl) (by kernel_rfl) (by kernel_rfl) (dk rfl) ?_
    refine va_goff 13 rfl rfl rfl rfl (by decide) (by kernel_rfl) (by kernel_rfl) (by kernel_rfl) (dk rfl) ?_
    refine va_goff 14 rfl rfl rfl rfl (by decide) (by kernel_rfl) (by kernel_rfl) (by kernel_rfl) (dk rfl) ?_
    refine va_goff 15 rfl rfl rfl rfl (by decide) (by kernel_rfl) (by kernel_rfl) (by kernel_rfl) (dk rfl) ?_
    refine va_q 16 rfl (by kernel_rfl) (by kernel_rfl) (by kernel_rfl) (q_pick_true rfl rfl) (dk rfl) ?_
    refine va_done (by kernel_rfl) ?_
    refine hK3 _ ?_
    refine vc_cond_true rfl ?_
    refine vc_seq fun K5 hK5 => ?_
    refine vc_region ?_
    refine vl_q (q_assign rfl) (dk rfl) ?_
    refine vl_q (q_assign rfl) (dk rfl) ?_
    refine vl_q (q_assign rfl) (dk rfl) ?_
    refine vl_q (q_assign rfl) (dk rfl) ?_
    refine vl_q (q_assign rfl) (dk rfl) ?_
    refine vl_nil ?_
    refine hK5 _ ?_
    refine vc_ret ?_
    refine ret_p rfl (.cons (res_tmp rfl) (.cons (res_tmp rfl) (.cons (res_tmp rfl) (.cons (res_tmp rfl) (.cons (res_tmp rfl) .nil))))) (rpT_bel t) ?_
    try simp only [show Int.toNat 0 = 0 from rfl, show Int.toNat 1 = 1 from rfl, show Int.toNat 2 = 2 from rfl] at *
    first | (rw [rpT_t (by omega) h14 (by omega)]; rfl) | (rw [rpT_f (by first | exact .inl (by omega) | exact .inr (.inl h14) | exact .inr (.inr (by omega)))]; rfl)
  · replace h9 := lss_nof h9
    refine va_q 3 rfl (by kernel_rfl) (by kernel_rfl) (by kernel_rfl) (q_move rfl) (dk rfl) ?_
    refine va_qg 4 rfl rfl rfl rfl (by kernel_rfl) (by kernel_rfl) (by kernel_rfl) (q_move rfl) (dk rfl) ?_
    refine va_qg 5 rfl rfl rfl rfl (by kernel_rfl) (by kernel_rfl) (by kernel_rfl) (q_index_str rfl rfl rfl rfl (by omega) (by omega)) (dk rfl) ?_
    refine va_qg 6 rfl rfl rfl rfl (by kernel_rfl) (by kernel_rfl) (by kernel_rfl) (q_convInt rfl rfl rfl rfl (IntWalk.i64_in _ (by have := byteAt_lt t (Int.toNat 2); omega))) (dk rfl) ?_
    refine va_all [7] (by kernel_rfl) (by simp) ⟨⟨_, rfl, ?_⟩, trivial⟩
    refine vl_guard_on rfl rfl rfl ?_
    refine vl_callP (c_spec_l01In (byteAt t 2) 1 15) rfl rfl ⟨XOk.val _, XOk.val _, XOk.val _, trivial⟩ rfl (.inr rfl) (dk rfl) ?_
    refine vl_bool 14 rfl (fun h14 => ?_) (fun h14 => ?_)
    · refine vl_nil ?_
      refine va_qg 8 rfl rfl rfl rfl (by kernel_rfl) (by kernel_rfl) (by kernel_rfl) (q_not rfl) (dk rfl) ?_
      refine va_q 9 rfl (by kernel_rfl) (by kernel_rfl) (by kernel_rfl) (q_pick_false rfl rfl) (dk rfl) ?_
      refine va_q 10 rfl (by kernel_rfl) (by kernel_rfl) (by kernel_rfl) (q_move rfl) (dk rfl) ?_
      refine va_qg 11 rfl rfl rfl rfl (by kernel_rfl) (by kernel_rfl) (by kernel_rfl) (q_move rfl) (dk rfl) ?_
      refine va_qg 12 rfl rfl rfl rfl (by kernel_rfl) (by kernel_rfl) (by kernel_rfl) (q_index_str rfl rfl rfl rfl (by omega) (by omega)) (dk rfl) ?_
      refine va_qg 13 rfl rfl rfl rfl (by kernel_rfl) (by kernel_rfl) (by kernel_rfl) (q_move rfl) (dk rfl) ?_
      refine va_qg 14 rfl rfl rfl rfl (by kernel_rfl) (by kernel_rfl) (by kernel_rfl) (q_index_str rfl rfl rfl rfl (by omega) (by omega)) (dk rfl) ?_
      refine va_twog 15 (x := fun b => vv (.bool b)) _ rfl rfl rfl rfl (by kernel_rfl) (by kernel_rfl) (by kernel_rfl) (q_cmp rfl rfl rfl rfl) (dk rfl) (fun h22 => ?_) (fun h22 => ?_)
      · replace h22 := geq_of h22
        refine va_q 16 rfl (by kernel_rfl) (by kernel_rfl) (by kernel_rfl) (q_pick_false rfl rfl) (dk rfl) ?_
        refine va_done (by kernel_rfl) ?_
        refine hK3 _ ?_
        refine vc_cond_true rfl ?_
        refine vc_seq fun K6 hK6 => ?_
        refine vc_region ?_
        refine vl_q (q_assign rfl) (dk rfl) ?_
        refine vl_q (q_assign rfl) (dk rfl) ?_
        refine vl_q (q_assign rfl) (dk rfl) ?_
        refine vl_q (q_assign rfl) (dk rfl) ?_
        refine vl_q (q_assign rfl) (dk rfl) ?_
        refine vl_nil ?_
        refine hK6 _ ?_
        refine vc_ret ?_
        refine ret_p rfl (.cons (res_tmp rfl) (.cons (res_tmp rfl) (.cons (res_tmp rfl) (.cons (res_tmp rfl) (.cons (res_tmp rfl) .nil))))) (rpT_bel t) ?_
        try simp only [show Int.toNat 0 = 0 from rfl, show Int.toNat 1 = 1 from rfl, show Int.toNat 2 = 2 from rfl] at *
        first | (rw [rpT_t (by omega) h14 (by omega)]; rfl) | (rw [rpT_f (by first | exact .inl (by omega) | exact .inr (.inl h14) | exact .inr (.inr (by omega)))]; rfl)
      · replace h22 := geq_nof h22
        refine va_q 16 rfl (by kernel_rfl) (by kernel_rfl) (by kernel_rfl) (q_pick_false rfl rfl) (dk rfl) ?_
        refine va_done (by kernel_rfl) ?_
        refine hK3 _ ?_
        refine vc_cond_false rfl ?_
        refine vc_skip ?_
        refine hK2 _ ?_
        refine vc_seq fun K7 hK7 => ?_
        refine vc_region_any mixed (fun n => false) true rfl rfl (fun _ hU8 => hU8) fun w1 S1 L1 Z1 H1 => ?_
        refine va_q 0 rfl (by kernel_rfl) (by kernel_rfl) (by kernel_rfl) (q_move rfl) (dk rfl) ?_
        refine va_q 1 rfl (by kernel_rfl) (by kernel_rfl) (by kernel_rfl) (q_index_str rfl rfl rfl rfl (by omega) (by omega)) (dk rfl) ?_
        refine va_q 2 rfl (by kernel_rfl) (by kernel_rfl) (by kernel_rfl) (q_convInt rfl rfl rfl rfl (IntWalk.i64_in _ (by have := byteAt_lt t (Int.toNat 0); omega))) (dk rfl) ?_
        refine va_q 3 rfl (by kernel_rfl) (by kernel_rfl) (by kernel_rfl) (q_move rfl) (dk rfl) ?_
        refine va_q 4 rfl (by kernel_rfl) (by kernel_rfl) (by kernel_rfl) (q_index_str rfl rfl rfl rfl (by omega) (by omega)) (dk rfl) ?_
        refine va_q 5 rfl (by kernel_rfl) (by kernel_rfl) (by kernel_rfl) (q_convInt rfl rfl rfl rfl (IntWalk.i64_in _ (by have := byteAt_lt t (Int.toNat 1); omega))) (dk rfl) ?_
        refine va_q 6 rfl (by kernel_rfl) (by kernel_rfl) (by kernel_rfl) (q_move rfl) (dk rfl) ?_
        refine va_q 7 rfl (by kernel_rfl) (by kernel_rfl) (by kernel_rfl) (q_index_str rfl rfl rfl rfl (by omega) (by omega)) (dk rfl) ?_
        refine va_q 8 rfl (by kernel_rfl) (by kernel_rfl) (by kernel_rfl) (q_convInt rfl rfl rfl rfl (IntWalk.i64_in _ (by have := byteAt_lt t (Int.toNat 2); omega))) (dk rfl) ?_
        refine va_q 9 rfl (by kernel_rfl) (by kernel_rfl) (by kernel_rfl) (q_move rfl) (dk rfl) ?_
        refine va_q 10 rfl (by kernel_rfl) (by kernel_rfl) (by kernel_rfl) (q_slice_str rfl rfl rfl rfl rfl (by omega) (by omega) (by omega)) (dk rfl) ?_
        refine va_q 11 rfl (by kernel_rfl) (by kernel_rfl) (by kernel_rfl) (q_assign rfl) (dk rfl) ?_
        refine va_q 12 rfl (by kernel_rfl) (by kernel_rfl) (by kernel_rfl) (q_assign rfl) (dk rfl) ?_
        refine va_q 13 rfl (by kernel_rfl) (by kernel_rfl) (by kernel_rfl) (q_assign rfl) (dk rfl) ?_
        refine va_q 14 rfl (by kernel_rfl) (by kernel_rfl) (by kernel_rfl) (q_assign rfl) (dk rfl) ?_
        refine va_q 15 rfl (by kernel_rfl) (by kernel_rfl) (by kernel_rfl) (q_assign rfl) (dk rfl) ?_
        refine va_done (by kernel_rfl) ?_
        refine hK7 _ ?_
        refine vc_ret ?_
        refine ret_p rfl (.cons (res_tmp rfl) (.cons (res_tmp rfl) (.cons (res_tmp rfl) (.cons (res_tmp rfl) (.cons (res_tmp rfl) .nil))))) (rpT_bel t) ?_
        try simp only [show Int.toNat 0 = 0 from rfl, show Int.toNat 1 = 1 from rfl, show Int.toNat 2 = 2 from rfl] at *
        first | (rw [rpT_t (by omega) h14 (by omega)]; rfl) | (rw [rpT_f (by first | exact .inl (by omega) | exact .inr (.inl h14) | exact .inr (.inr (by omega)))]; rfl)
    · refine vl_nil ?_
      refine va_qg 8 rfl rfl rfl rfl (by kernel_rfl) (by kernel_rfl) (by kernel_rfl) (q_not rfl) (dk rfl) ?_
      refine va_q 9 rfl (by kernel_rfl) (by kernel_rfl) (by kernel_rfl) (q_pick_false rfl rfl) (dk rfl) ?_
      refine va_q 10 rfl (by kernel_rfl) (by kernel_rfl) (by kernel_rfl) (q_move rfl) (dk rfl) ?_
      refine va_goff 11 rfl rfl rfl rfl (by decide) (by kernel_rfl) (by kernel_rfl) (by kernel_rfl) (dk rfl) ?_
      refine va_goff 12 rfl rfl rfl rfl (by decide) (by kernel_rfl) (by kernel_rfl) (by kernel_rfl) (dk rfl) ?_
      refine va_goff 13 rfl rfl rfl rfl (by decide) (by kernel_rfl) (by kernel_rfl) (by kernel_rfl) (dk rfl) ?_
      refine va_goff 14 rfl rfl rfl rfl (by decide) (by kernel_rfl) (by kernel_rfl) (by kernel_rfl) (dk rfl) ?_
      refine va_goff 15 rfl rfl rfl rfl (by decide) (by kernel_rfl) (by kernel_rfl) (by kernel_rfl) (dk rfl) ?_
      refine va_q 16 rfl (by kernel_rfl) (by kernel_rfl) (by kernel_rfl) (q_pick_true rfl rfl) (dk rfl) ?_
      refine va_done (by kernel_rfl) ?_
      refine hK3 _ ?_
      refine vc_cond_true rfl ?_
      refine vc_seq fun K9 hK9 => ?_
      refine vc_region ?_
      refine vl_q (q_assign rfl) (dk rfl) ?_
      refine vl_q (q_assign rfl) (dk rfl) ?_
      refine vl_q (q_assign rfl) (dk rfl) ?_
      refine vl_q (q_assign rfl) (dk rfl) ?_
      refine vl_q (q_assign rfl) (dk rfl) ?_
      refine vl_nil ?_
      refine hK9 _ ?_
      refine vc_ret ?_
      refine ret_p rfl (.cons (res_tmp rfl) (.cons (res_tmp rfl) (.cons (res_tmp rfl) (.cons (res_tmp rfl) (.cons (res_tmp rfl) .nil))))) (rpT_bel t) ?_
      try simp only [show Int.toNat 0 = 0 from rfl, show Int.toNat 1 = 1 from rfl, show Int.toNat 2 = 2 from rfl] at *
      first | (rw [rpT_t (by omega) h14 (by omega)]; rfl) | (rw [rpT_f (by first | exact .inl (by omega) | exact .inr (.inl h14) | exact .inr (.inr (by omega)))]; rfl)
end Go.Vm.S
namespace Go.Vm.S
open Go Go.Vm
theorem c_ReadPart_t (t : ByteArray) (h : rpOk t = true) : Ctr Pg ty 13 [sv t] [] (Gives (.tup [iv (byteAt t 0), iv (byteAt t 1), iv (byteAt t 2), sv (part t), bv true]) [] []) := by
  have := c_impl_ReadPart t; unfold rpT at this; rwa [if_pos h] at this
theorem c_ReadPart_f (t : ByteArray) (h : rpOk t = false) : Ctr Pg ty 13 [sv t] [] (Gives (.tup [iv 0, iv 0, iv 0, sv ⟨#[]⟩, bv false]) [] []) := by
  have := c_impl_ReadPart t; unfold rpT at this; rwa [if_neg (by rw [h]; simp)] at this
theorem c_sReadPart_t (t : ByteArray) (h : rpOk t = true) : Ctr Pg ty 49 [sv t] [] (Gives (.tup [iv (byteAt t 0), iv (byteAt t 1), iv (byteAt t 2), sv (part t), bv true]) [] []) := by
  have := c_spec_ReadPart t; unfold rpT at this; rwa [if_pos h] at this
theorem c_sReadPart_f (t : ByteArray) (h : rpOk t = false) : Ctr Pg ty 49 [sv t] [] (Gives (.tup [iv 0, iv 0, iv 0, sv ⟨#[]⟩, bv false]) [] []) := by
  have := c_spec_ReadPart t; unfold rpT at this; rwa [if_neg (by rw [h]; simp)] at this
end Go.Vm.S
namespace Go.Vm.S
open Go Go.Vm
set_option maxRecDepth 100000
set_option linter.unusedVariables false
set_option maxHeartbeats 4000000
theorem at69 : FnAt Pg 69 Go.Proofs.Try.f69 := ⟨by kernel_rfl, rfl, by decide⟩
theorem c_spec_l20Held (x : Held) :
    Ctr Pg ty 69 [.agg ((heldC x).map X.c)] [] (Gives (vv (.bool (heldB x))) [] []) := by
  refine ctr at69 rfl (nsK_gives rfl trivial trivial) (Nat.le_of_ble_eq_true rfl) fun w0 S0 L0 Z => ?_
  refine vc_seq fun K1 hK1 => ?_
  refine vc_region ?_
  refine vl_box rfl (dk rfl) ?_
  refine vl_q (q_assign rfl) (dk rfl) ?_
  refine vl_nil ?_
  refine hK1 _ ?_
  refine vc_seq fun K2 hK2 => ?_
  refine vc_seq fun K3 hK3 => ?_
  refine vc_region ?_
  refine vl_q (q_fieldAddr 0 rfl rfl rfl rfl (by decide) rfl rfl) (dk rfl) ?_
  refine vl_load rfl rfl rfl rfl rfl rfl rfl (by decide) (dk rfl) ?_
  refine vl_callP (c_spec_l01In _ _ _) rfl rfl ⟨XOk.val _, XOk.val _, XOk.val _, trivial⟩ rfl (.inl rfl) (dk rfl) ?_
  refine vl_bool 7 rfl (fun h7 => ?_) (fun h7 => ?_)
  · refine vl_q (q_not rfl) (dk rfl) ?_
    refine vl_q (q_move rfl) (dk rfl) ?_
    refine vl_guard_on rfl rfl rfl ?_
    refine vl_q (q_fieldAddr 1 rfl rfl rfl rfl (by decide) rfl rfl) (dk rfl) ?_
    refine vl_guard_on rfl rfl rfl ?_
    refine vl_load rfl rfl rfl rfl rfl rfl rfl (by decide) (dk rfl) ?_
    refine vl_guard_on rfl rfl rfl ?_
    refine vl_callP (c_spec_l01In _ _ _) rfl rfl ⟨XOk.val _, XOk.val _, XOk.val _, trivial⟩ rfl (.inl rfl) (dk rfl) ?_
    refine vl_bool 12 rfl (fun h12 => ?_) (fun h12 => ?_)
    · refine vl_guard_on rfl rfl rfl ?_
      refine vl_q (q_not rfl) (dk rfl) ?_
      refine vl_q (q_pick_false rfl rfl) (dk rfl) ?_
      refine vl_q (q_move rfl) (dk rfl) ?_
      refine vl_guard_on rfl rfl rfl ?_
      refine vl_q (q_fieldAddr 2 rfl rfl rfl rfl (by decide) rfl rfl) (dk rfl) ?_
      refine vl_guard_on rfl rfl rfl ?_
      refine vl_load rfl rfl rfl rfl rfl rfl rfl (by decide) (dk rfl) ?_
      refine vl_guard_on rfl rfl rfl ?_
      refine vl_callP (c_spec_l01In _ _ _) rfl rfl ⟨XOk.val _, XOk.val _, XOk.val _, trivial⟩ rfl (.inl rfl) (dk rfl) ?_
      refine vl_bool 18 rfl (fun h18 => ?_) (fun h18 => ?_)
      · refine vl_guard_on rfl rfl rfl ?_
        refine vl_q (q_not rfl) (dk rfl) ?_
        refine vl_q (q_pick_false rfl rfl) (dk rfl) ?_
        refine vl_q (q_move rfl) (dk rfl) ?_
        refine vl_guard_on rfl rfl rfl ?_
        refine vl_q (q_fieldAddr 3 rfl rfl rfl rfl (by decide) rfl rfl) (dk rfl) ?_
        refine vl_guard_on rfl rfl rfl ?_
        refine vl_load rfl rfl rfl rfl rfl rfl rfl (by decide) (dk rfl) ?_
        refine vl_guard_on rfl rfl rfl ?_
        refine vl_q (q_len_sh rfl rfl rfl) (dk rfl) ?_
        refine vl_guard_on rfl rfl rfl ?_
        refine vl_q (q_fieldAddr 2 rfl rfl rfl rfl (by decide) rfl rfl) (dk rfl) ?_
        refine vl_guard_on rfl rfl rfl ?_
        refine vl_load rfl rfl rfl rfl rfl rfl rfl (by decide) (dk rfl) ?_
        refine vl_guard_on rfl rfl rfl ?_
        refine vl_two (x := fun b => vv (.bool b)) _ (q_cmp rfl rfl rfl rfl) (dk rfl) (fun h27 => ?_) (fun h27 => ?_)
        · replace h27 := neq_of h27
          refine vl_q (q_pick_false rfl rfl) (dk rfl) ?_
          refine vl_q (q_move rfl) (dk rfl) ?_
          refine vl_goff rfl rfl rfl (by decide) (dk rfl) ?_
          refine vl_goff rfl rfl rfl (by decide) (dk rfl) ?_
          refine vl_goff rfl rfl rfl (by decide) (dk rfl) ?_
          refine vl_goff rfl rfl rfl (by decide) (dk rfl) ?_
          refine vl_goff rfl rfl rfl (by decide) (dk rfl) ?_
          refine vl_goff rfl rfl rfl (by decide) (dk rfl) ?_
          refine vl_q (q_pick_true rfl rfl) (dk rfl) ?_
          refine vl_q (q_move rfl) (dk rfl) ?_
          refine vl_goff rfl rfl rfl (by decide) (dk rfl) ?_
          refine vl_goff rfl rfl rfl (by decide) (dk rfl) ?_
          refine vl_goff rfl rfl rfl (by decide) (dk rfl) ?_
          refine vl_goff rfl rfl rfl (by decide) (dk rfl) ?_
          refine vl_q (q_pick_true rfl rfl) (dk rfl) ?_
          refine vl_nil ?_
          refine hK3 _ ?_
          refine vc_cond_true rfl ?_
          refine vc_seq fun K4 hK4 => ?_
          refine vc_region ?_
          refine vl_q (q_assign rfl) (dk rfl) ?_
          refine vl_nil ?_
          refine hK4 _ ?_
          refine vc_ret ?_
          refine ret_p rfl (.cons (res_tmp rfl) .nil) rfl ?_
          try simp only [List.length_map] at *
          first
            | (rw [heldB_f (fun g => Bool.noConfusion (‹within x.fr 1 99 = false›.symm.trans g.fr))]; rfl)
            | (rw [heldB_f (fun g => Bool.noConfusion (‹within x.id 0 255 = false›.symm.trans g.id))]; rfl)
            | (rw [heldB_f (fun g => Bool.noConfusion (‹within x.cnt 2 15 = false›.symm.trans g.cnt))]; rfl)
            | (rw [heldB_f (fun g => Bool.noConfusion (‹within x.til 0 1000000000 = false›.symm.trans g.til))]; rfl)
            | (rw [heldB_f (fun g => absurd g.parts ‹(x.parts.length : Int) ≠ x.cnt›)]; rfl)
            | (rw [heldB_f (fun g => absurd g.hav ‹(x.hav.length : Int) ≠ x.cnt›)]; rfl)
            | (rw [heldB_f (not_row hxh hxp (rowOk_big (by omega)))]; rfl)
            | (rw [heldB_f (not_row hxh hxp (rowOk_junk hbf ‹_ ≠ _›))]; rfl)
            | (rw [heldB_f (fun g => by have g1 := g.have1; have g2 := g.have2; have := within_nof ‹within (haveN x.hav x.hav.length : Nat) 1 (x.cnt - 1) = false›; omega)]; rfl)
            | (rw [heldB_f (fun g => by have g1 := g.have1; have g2 := g.have2; omega)]; rfl)
            | (rw [heldB_t ⟨‹_›, ‹_›, ‹_›, by omega, by omega, hr, by have := within_of ‹within (haveN x.hav x.hav.length : Nat) 1 (x.cnt - 1) = true›; omega, by have := within_of ‹within (haveN x.hav x.hav.length : Nat) 1 (x.cnt - 1) = true›; omega, ‹_›⟩]; rfl)
            | (rw [heldB_t ⟨‹_›, ‹_›, ‹_›, by omega, by omega, hr, by omega, by omega, ‹_›⟩]; rfl)
        · replace h27 := neq_nof h27
          refine vl_q (q_pick_false rfl rfl) (dk rfl) ?_
          refine vl_q (q_move rfl) (dk rfl) ?_
          refine vl_guard_on rfl rfl rfl ?_
          refine vl_q (q_fieldAddr 4 rfl rfl rfl rfl (by decide) rfl rfl) (dk rfl) ?_
          refine vl_guard_on rfl rfl rfl ?_
          refine vl_load rfl rfl rfl rfl rfl rfl rfl (by decide) (dk rfl) ?_
          refine vl_guard_on rfl rfl rfl ?_
          refine vl_q (q_len_sh rfl rfl rfl) (dk rfl) ?_
          refine vl_guard_on rfl rfl rfl ?_
          refine vl_q (q_fieldAddr 2 rfl rfl rfl rfl (by decide) rfl rfl) (dk rfl) ?_
          refine vl_guard_on rfl rfl rfl ?_
          refine vl_load rfl rfl rfl rfl rfl rfl rfl (by decide) (dk rfl) ?_
          refine vl_guard_on rfl rfl rfl ?_
          refine vl_two (x := fun b => vv (.bool b)) _ (q_cmp rfl rfl rfl rfl) (dk rfl) (fun h35 => ?_) (fun h35 => ?_)
          · replace h35 := neq_of h35
            refine vl_q (q_pick_false rfl rfl) (dk rfl) ?_
            refine vl_q (q_move rfl) (dk rfl) ?_
            refine vl_goff rfl rfl rfl (by decide) (dk rfl) ?_
            refine vl_goff rfl rfl rfl (by decide) (dk rfl) ?_
            refine vl_goff rfl rfl rfl (by decide) (dk rfl) ?_
            refine vl_goff rfl rfl rfl (by decide) (dk rfl) ?_
            refine vl_q (q_pick_true rfl rfl) (dk rfl) ?_
            refine vl_nil ?_
            refine hK3 _ ?_
            refine vc_cond_true rfl ?_
            refine vc_seq fun K5 hK5 => ?_
            refine vc_region ?_
            refine vl_q (q_assign rfl) (dk rfl) ?_
            refine vl_nil ?_
            refine hK5 _ ?_
            refine vc_ret ?_
            refine ret_p rfl (.cons (res_tmp rfl) .nil) rfl ?_
            try simp only [List.length_map] at *
            first
              | (rw [heldB_f (fun g => Bool.noConfusion (‹within x.fr 1 99 = false›.symm.trans g.fr))]; rfl)
              | (rw [heldB_f (fun g => Bool.noConfusion (‹within x.id 0 255 = false›.symm.trans g.id))]; rfl)
              | (rw [heldB_f (fun g => Bool.noConfusion (‹within x.cnt 2 15 = false›.symm.trans g.cnt))]; rfl)
              | (rw [heldB_f (fun g => Bool.noConfusion (‹within x.til 0 1000000000 = false›.symm.trans g.til))]; rfl)
              | (rw [heldB_f (fun g => absurd g.parts ‹(x.parts.length : Int) ≠ x.cnt›)]; rfl)
              | (rw [heldB_f (fun g => absurd g.hav ‹(x.hav.length : Int) ≠ x.cnt›)]; rfl)
              | (rw [heldB_f (not_row hxh hxp (rowOk_big (by omega)))]; rfl)
              | (rw [heldB_f (not_row hxh hxp (rowOk_junk hbf ‹_ ≠ _›))]; rfl)
              | (rw [heldB_f (fun g => by have g1 := g.have1; have g2 := g.have2; have := within_nof ‹within (haveN x.hav x.hav.length : Nat) 1 (x.cnt - 1) = false›; omega)]; rfl)
              | (rw [heldB_f (fun g => by have g1 := g.have1; have g2 := g.have2; omega)]; rfl)
              | (rw [heldB_t ⟨‹_›, ‹_›, ‹_›, by omega, by omega, hr, by have := within_of ‹within (haveN x.hav x.hav.length : Nat) 1 (x.cnt - 1) = true›; omega, by have := within_of ‹within (haveN x.hav x.hav.length : Nat) 1 (x.cnt - 1) = true›; omega, ‹_›⟩]; rfl)
              | (rw [heldB_t ⟨‹_›, ‹_›, ‹_›, by omega, by omega, hr, by omega, by omega, ‹_›⟩]; rfl)
          · replace h35 := neq_nof h35
            refine vl_q (q_pick_false rfl rfl) (dk rfl) ?_
            refine vl_q (q_move rfl) (dk rfl) ?_
            refine vl_guard_on rfl rfl rfl ?_
            refine vl_q (q_fieldAddr 5 rfl rfl rfl rfl (by decide) rfl rfl) (dk rfl) ?_
            refine vl_guard_on rfl rfl rfl ?_
            refine vl_load rfl rfl rfl rfl rfl rfl rfl (by decide) (dk rfl) ?_
            refine vl_guard_on rfl rfl rfl ?_
            refine vl_callP (c_spec_l01In _ _ _) rfl rfl ⟨XOk.val _, XOk.val _, XOk.val _, trivial⟩ rfl (.inl rfl) (dk rfl) ?_
            refine vl_bool 40 rfl (fun h40 => ?_) (fun h40 => ?_)
            · refine vl_guard_on rfl rfl rfl ?_
              refine vl_q (q_not rfl) (dk rfl) ?_
              refine vl_q (q_pick_false rfl rfl) (dk rfl) ?_
              refine vl_nil ?_
              refine hK3 _ ?_
              refine vc_cond_false rfl ?_
              refine vc_skip ?_
              refine hK2 _ ?_
              refine vc_seq fun K6 hK6 => ?_
              have hw := within_of h18
              simp only [List.length_map] at h27 h35
              refine vc_region ?_
              refine vl_q (q_assign rfl) (dk rfl) ?_
              refine vl_nil ?_
              refine hK6 _ ?_
              refine vc_seq fun K7 hK7 => ?_
              refine vc_seq fun K8 hK8 => ?_
              refine vc_region ?_
              refine vl_q (q_assign rfl) (dk rfl) ?_
              refine vl_nil ?_
              refine hK8 _ ?_
              refine vc_block ?_
              refine vc_loop (fun mz st => ∃ i : Nat, (i ≤ x.hav.length ∧ rowsOk x i) ∧ mz = x.hav.length - i ∧ st = mkSt [(1, .v (.one (.ptr 16 0 0))), (3, .v (iv (haveN x.hav i : Nat))), (4, .v (iv i))] [(16, ⟨6, [(heldC x).map X.c]⟩)] 17) ⟨_, _, ⟨0, ⟨by omega, rowsOk_zero x⟩, rfl, rfl⟩, (Weak.cut _ _ _ (Nat.le_of_ble_eq_true rfl) ⟨⟨rfl, rfl⟩, ⟨rfl, rfl⟩, ⟨rfl, rfl⟩, trivial⟩ ⟨⟨Nat.le_of_ble_eq_true rfl, rfl, belN_all rfl⟩, trivial⟩ rfl)⟩ (fun mz st hI => ?_)
              obtain ⟨i, ⟨hi, hr⟩, hmz, rfl⟩ := hI
              refine vc_seq fun K9 hK9 => ?_
              refine vc_seq fun K10 hK10 => ?_
              refine vc_region ?_
              refine vl_q (q_move rfl) (dk rfl) ?_
              refine vl_q (q_fieldAddr 2 rfl rfl rfl rfl (by decide) rfl rfl) (dk rfl) ?_
              refine vl_load rfl rfl rfl rfl rfl rfl rfl (by decide) (dk rfl) ?_
              refine vl_two (x := fun b => vv (.bool b)) _ (q_cmp rfl rfl rfl rfl) (dk rfl) (fun h46 => ?_) (fun h46 => ?_)
              · replace h46 := lss_of h46
                refine vl_nil ?_
                refine hK10 _ ?_
                refine vc_cond_true rfl ?_
                refine vc_skip ?_
                refine hK9 _ ?_
                refine vc_seq fun K11 hK11 => ?_
                refine vc_block ?_
                refine vc_seq fun K12 hK12 => ?_
                refine vc_seq fun K13 hK13 => ?_
                have hxh : i < x.hav.length := by omega
                have hxp : i < x.parts.length := by omega
                refine vc_region ?_
                refine vl_q (q_fieldAddr 4 rfl rfl rfl rfl (by decide) rfl rfl) (dk rfl) ?_
                refine vl_load rfl rfl rfl rfl rfl rfl rfl (by decide) (dk rfl) ?_
                refine vl_q (q_move rfl) (dk rfl) ?_
                refine vl_q (q_indexAddr_sh rfl rfl rfl rfl rfl rfl (by decide) (by omega) (get_map (i := i) hxh)) (dk rfl) ?_
                refine vl_load_sp rfl rfl rfl rfl (by decide) (dk rfl) ?_
                refine vl_bool 53 rfl (fun h53 => ?_) (fun h53 => ?_)
                · have hbt : x.hav[i] = true := h53
                  have hbb := hbt
                  have hn := haveN_t hxh hbt
                  refine vl_nil ?_
                  refine hK13 _ ?_
                  refine vc_cond_true rfl ?_
                  have hlh := haveN_le x.hav i
                  refine vc_region ?_
                  refine vl_q (q_move rfl) (dk rfl) ?_
                  refine vl_q (q_add rfl rfl (IntWalk.i64_in _ (by omega))) (dk rfl) ?_
                  refine vl_q (q_assign rfl) (dk rfl) ?_
                  refine vl_nil ?_
                  refine hK12 _ ?_
                  refine vc_seq fun K14 hK14 => ?_
                  refine vc_region ?_
                  refine vl_q (q_fieldAddr 4 rfl rfl rfl rfl (by decide) rfl rfl) (dk rfl) ?_
                  refine vl_load rfl rfl rfl rfl rfl rfl rfl (by decide) (dk rfl) ?_
                  refine vl_q (q_move rfl) (dk rfl) ?_
                  refine vl_q (q_indexAddr_sh rfl rfl rfl rfl rfl rfl (by decide) (by omega) (get_map (i := i) hxh)) (dk rfl) ?_
                  refine vl_load_sp rfl rfl rfl rfl (by decide) (dk rfl) ?_
                  refine vl_weak (Weak.lit (d := 60) (y := vv (.bool true)) rfl (by rw [← hbb]; rfl)) ?_
                  refine vl_q (q_not rfl) (dk rfl) ?_
                  refine vl_q (q_move rfl) (dk rfl) ?_
                  refine vl_goff rfl rfl rfl (by decide) (dk rfl) ?_
                  refine vl_goff rfl rfl rfl (by decide) (dk rfl) ?_
                  refine vl_goff rfl rfl rfl (by decide) (dk rfl) ?_
                  refine vl_goff rfl rfl rfl (by decide) (dk rfl) ?_
                  refine vl_goff rfl rfl rfl (by decide) (dk rfl) ?_
                  refine vl_goff rfl rfl rfl (by decide) (dk rfl) ?_
                  refine vl_q (q_pick_false rfl rfl) (dk rfl) ?_
                  refine vl_q (q_move rfl) (dk rfl) ?_
                  refine vl_guard_on rfl rfl rfl ?_
                  refine vl_q (q_fieldAddr 3 rfl rfl rfl rfl (by decide) rfl rfl) (dk rfl) ?_
                  refine vl_guard_on rfl rfl rfl ?_
                  refine vl_load rfl rfl rfl rfl rfl rfl rfl (by decide) (dk rfl) ?_
                  refine vl_guard_on rfl rfl rfl ?_
                  refine vl_q (q_move rfl) (dk rfl) ?_
                  refine vl_guard_on rfl rfl rfl ?_
                  refine vl_q (q_indexAddr_sh rfl rfl rfl rfl rfl rfl (by decide) (by omega) (get_map (i := i) hxp)) (dk rfl) ?_
                  refine vl_guard_on rfl rfl rfl ?_
                  refine vl_load_sp rfl rfl rfl rfl (by decide) (dk rfl) ?_
                  refine vl_guard_on rfl rfl rfl ?_
                  refine vl_q (q_len_str rfl rfl rfl) (dk rfl) ?_
                  refine vl_guard_on rfl rfl rfl ?_
                  refine vl_two (x := fun b => vv (.bool b)) _ (q_cmp rfl rfl rfl rfl) (dk rfl) (fun h77 => ?_) (fun h77 => ?_)
                  · replace h77 := gtr_of h77
                    refine vl_q (q_pick_false rfl rfl) (dk rfl) ?_
                    refine vl_nil ?_
                    refine hK14 _ ?_
                    refine vc_cond_true rfl ?_
                    refine vc_seq fun K15 hK15 => ?_
                    refine vc_region ?_
                    refine vl_q (q_assign rfl) (dk rfl) ?_
                    refine vl_nil ?_
                    refine hK15 _ ?_
                    refine vc_ret ?_
                    refine ret_p rfl (.cons (res_tmp rfl) .nil) rfl ?_
                    try simp only [List.length_map] at *
                    first
                      | (rw [heldB_f (fun g => Bool.noConfusion (‹within x.fr 1 99 = false›.symm.trans g.fr))]; rfl)
                      | (rw [heldB_f (fun g => Bool.noConfusion (‹within x.id 0 255 = false›.symm.trans g.id))]; rfl)
                      | (rw [heldB_f (fun g => Bool.noConfusion (‹within x.cnt 2 15 = false›.symm.trans g.cnt))]; rfl)
                      | (rw [heldB_f (fun g => Bool.noConfusion (‹within x.til 0 1000000000 = false›.symm.trans g.til))]; rfl)
                      | (rw [heldB_f (fun g => absurd g.parts ‹(x.parts.length : Int) ≠ x.cnt›)]; rfl)
                      | (rw [heldB_f (fun g => absurd g.hav ‹(x.hav.length : Int) ≠ x.cnt›)]; rfl)
                      | (rw [heldB_f (not_row hxh hxp (rowOk_big (by omega)))]; rfl)
                      | (rw [heldB_f (not_row hxh hxp (rowOk_junk hbf ‹_ ≠ _›))]; rfl)
                      | (rw [heldB_f (fun g => by have g1 := g.have1; have g2 := g.have2; have := within_nof ‹within (haveN x.hav x.hav.length : Nat) 1 (x.cnt - 1) = false›; omega)]; rfl)
                      | (rw [heldB_f (fun g => by have g1 := g.have1; have g2 := g.have2; omega)]; rfl)
                      | (rw [heldB_t ⟨‹_›, ‹_›, ‹_›, by omega, by omega, hr, by have := within_of ‹within (haveN x.hav x.hav.length : Nat) 1 (x.cnt - 1) = true›; omega, by have := within_of ‹within (haveN x.hav x.hav.length : Nat) 1 (x.cnt - 1) = true›; omega, ‹_›⟩]; rfl)
                      | (rw [heldB_t ⟨‹_›, ‹_›, ‹_›, by omega, by omega, hr, by omega, by omega, ‹_›⟩]; rfl)
                  · replace h77 := gtr_nof h77
                    refine vl_q (q_pick_false rfl rfl) (dk rfl) ?_
                    refine vl_nil ?_
                    refine hK14 _ ?_
                    refine vc_cond_false rfl ?_
                    refine vc_skip ?_
                    refine hK11 _ ?_
                    refine vc_region ?_
                    refine vl_q (q_move rfl) (dk rfl) ?_
                    refine vl_q (q_add rfl rfl (IntWalk.i64_in _ (by omega))) (dk rfl) ?_
                    refine vl_q (q_assign rfl) (dk rfl) ?_
                    refine vl_nil ?_
                    refine ⟨_, _, ?_, ⟨i + 1, ⟨by omega, rowsOk_succ hr hxh hxp (rowOk_t (by omega) (by first | exact .inl hbt | exact .inr h68))⟩, rfl, rfl⟩, (Weak.cut _ _ _ (Nat.le_of_ble_eq_true rfl) ⟨⟨rfl, rfl⟩, ⟨iv_eq (by omega), rfl⟩, ⟨rfl, rfl⟩, trivial⟩ ⟨⟨Nat.le_of_ble_eq_true rfl, rfl, belN_all rfl⟩, trivial⟩ rfl)⟩
                    omega
                · have hbf : x.hav[i] = false := h53
                  have hbb := hbf
                  have hn := haveN_f hxh hbf
                  refine vl_nil ?_
                  refine hK13 _ ?_
                  refine vc_cond_false rfl ?_
                  refine vc_skip ?_
                  refine hK12 _ ?_
                  refine vc_seq fun K16 hK16 => ?_
                  refine vc_region ?_
                  refine vl_q (q_fieldAddr 4 rfl rfl rfl rfl (by decide) rfl rfl) (dk rfl) ?_
                  refine vl_load rfl rfl rfl rfl rfl rfl rfl (by decide) (dk rfl) ?_
                  refine vl_q (q_move rfl) (dk rfl) ?_
                  refine vl_q (q_indexAddr_sh rfl rfl rfl rfl rfl rfl (by decide) (by omega) (get_map (i := i) hxh)) (dk rfl) ?_
                  refine vl_load_sp rfl rfl rfl rfl (by decide) (dk rfl) ?_
                  refine vl_weak (Weak.lit (d := 60) (y := vv (.bool false)) rfl (by rw [← hbb]; rfl)) ?_
                  refine vl_q (q_not rfl) (dk rfl) ?_
                  refine vl_q (q_move rfl) (dk rfl) ?_
                  refine vl_guard_on rfl rfl rfl ?_
                  refine vl_q (q_fieldAddr 3 rfl rfl rfl rfl (by decide) rfl rfl) (dk rfl) ?_
                  refine vl_guard_on rfl rfl rfl ?_
                  refine vl_load rfl rfl rfl rfl rfl rfl rfl (by decide) (dk rfl) ?_
                  refine vl_guard_on rfl rfl rfl ?_
                  refine vl_q (q_move rfl) (dk rfl) ?_
                  refine vl_guard_on rfl rfl rfl ?_
                  refine vl_q (q_indexAddr_sh rfl rfl rfl rfl rfl rfl (by decide) (by omega) (get_map (i := i) hxp)) (dk rfl) ?_
                  refine vl_guard_on rfl rfl rfl ?_
                  refine vl_load_sp rfl rfl rfl rfl (by decide) (dk rfl) ?_
                  refine vl_guard_on rfl rfl rfl ?_
                  refine vl_two (x := fun b => vv (.bool b)) _ (q_cmpS rfl rfl (.inr rfl) rfl) (dk rfl) (fun h68 => ?_) (fun h68 => ?_)
                  · replace h68 := neqS_of h68
                    refine vl_q (q_pick_true rfl rfl) (dk rfl) ?_
                    refine vl_q (q_move rfl) (dk rfl) ?_
                    refine vl_goff rfl rfl rfl (by decide) (dk rfl) ?_
                    refine vl_goff rfl rfl rfl (by decide) (dk rfl) ?_
                    refine vl_goff rfl rfl rfl (by decide) (dk rfl) ?_
                    refine vl_goff rfl rfl rfl (by decide) (dk rfl) ?_
                    refine vl_goff rfl rfl rfl (by decide) (dk rfl) ?_
                    refine vl_goff rfl rfl rfl (by decide) (dk rfl) ?_
                    refine vl_goff rfl rfl rfl (by decide) (dk rfl) ?_
                    refine vl_q (q_pick_true rfl rfl) (dk rfl) ?_
                    refine vl_nil ?_
                    refine hK16 _ ?_
                    refine vc_cond_true rfl ?_
                    refine vc_seq fun K17 hK17 => ?_
                    refine vc_region ?_
                    refine vl_q (q_assign rfl) (dk rfl) ?_
                    refine vl_nil ?_
                    refine hK17 _ ?_
                    refine vc_ret ?_
                    refine ret_p rfl (.cons (res_tmp rfl) .nil) rfl ?_
                    try simp only [List.length_map] at *
                    first
                      | (rw [heldB_f (fun g => Bool.noConfusion (‹within x.fr 1 99 = false›.symm.trans g.fr))]; rfl)
                      | (rw [heldB_f (fun g => Bool.noConfusion (‹within x.id 0 255 = false›.symm.trans g.id))]; rfl)
                      | (rw [heldB_f (fun g => Bool.noConfusion (‹within x.cnt 2 15 = false›.symm.trans g.cnt))]; rfl)
                      | (rw [heldB_f (fun g => Bool.noConfusion (‹within x.til 0 1000000000 = false›.symm.trans g.til))]; rfl)
                      | (rw [heldB_f (fun g => absurd g.parts ‹(x.parts.length : Int) ≠ x.cnt›)]; rfl)
                      | (rw [heldB_f (fun g => absurd g.hav ‹(x.hav.length : Int) ≠ x.cnt›)]; rfl)
                      | (rw [heldB_f (not_row hxh hxp (rowOk_big (by omega)))]; rfl)
                      | (rw [heldB_f (not_row hxh hxp (rowOk_junk hbf ‹_ ≠ _›))]; rfl)
                      | (rw [heldB_f (fun g => by have g1 := g.have1; have g2 := g.have2; have := within_nof ‹within (haveN x.hav x.hav.length : Nat) 1 (x.cnt - 1) = false›; omega)]; rfl)
                      | (rw [heldB_f (fun g => by have g1 := g.have1; have g2 := g.have2; omega)]; rfl)
                      | (rw [heldB_t ⟨‹_›, ‹_›, ‹_›, by omega, by omega, hr, by have := within_of ‹within (haveN x.hav x.hav.length : Nat) 1 (x.cnt - 1) = true›; omega, by have := within_of ‹within (haveN x.hav x.hav.length : Nat) 1 (x.cnt - 1) = true›; omega, ‹_›⟩]; rfl)
                      | (rw [heldB_t ⟨‹_›, ‹_›, ‹_›, by omega, by omega, hr, by omega, by omega, ‹_›⟩]; rfl)
                  · replace h68 := neqS_nof h68
                    refine vl_q (q_pick_true rfl rfl) (dk rfl) ?_
                    refine vl_q (q_move rfl) (dk rfl) ?_
                    refine vl_guard_on rfl rfl rfl ?_
                    refine vl_q (q_fieldAddr 3 rfl rfl rfl rfl (by decide) rfl rfl) (dk rfl) ?_
                    refine vl_guard_on rfl rfl rfl ?_
                    refine vl_load rfl rfl rfl rfl rfl rfl rfl (by decide) (dk rfl) ?_
                    refine vl_guard_on rfl rfl rfl ?_
                    refine vl_q (q_move rfl) (dk rfl) ?_
                    refine vl_guard_on rfl rfl rfl ?_
                    refine vl_q (q_indexAddr_sh rfl rfl rfl rfl rfl rfl (by decide) (by omega) (get_map (i := i) hxp)) (dk rfl) ?_
                    refine vl_guard_on rfl rfl rfl ?_
                    refine vl_load_sp rfl rfl rfl rfl (by decide) (dk rfl) ?_
                    refine vl_guard_on rfl rfl rfl ?_
                    refine vl_q (q_len_str rfl rfl rfl) (dk rfl) ?_
                    refine vl_guard_on rfl rfl rfl ?_
                    refine vl_two (x := fun b => vv (.bool b)) _ (q_cmp rfl rfl rfl rfl) (dk rfl) (fun h77 => ?_) (fun h77 => ?_)
                    · replace h77 := gtr_of h77
                      refine vl_q (q_pick_false rfl rfl) (dk rfl) ?_
                      refine vl_nil ?_
                      refine hK16 _ ?_
                      refine vc_cond_true rfl ?_
                      refine vc_seq fun K18 hK18 => ?_
                      refine vc_region ?_
                      refine vl_q (q_assign rfl) (dk rfl) ?_
                      refine vl_nil ?_
                      refine hK18 _ ?_
                      refine vc_ret ?_
                      refine ret_p rfl (.cons (res_tmp rfl) .nil) rfl ?_
                      try simp only [List.length_map] at *
                      first
                        | (rw [heldB_f (fun g => Bool.noConfusion (‹within x.fr 1 99 = false›.symm.trans g.fr))]; rfl)
                        | (rw [heldB_f (fun g => Bool.noConfusion (‹within x.id 0 255 = false›.symm.trans g.id))]; rfl)
                        | (rw [heldB_f (fun g => Bool.noConfusion (‹within x.cnt 2 15 = false›.symm.trans g.cnt))]; rfl)
                        | (rw [heldB_f (fun g => Bool.noConfusion (‹within x.til 0 1000000000 = false›.symm.trans g.til))]; rfl)
                        | (rw [heldB_f (fun g => absurd g.parts ‹(x.parts.length : Int) ≠ x.cnt›)]; rfl)
                        | (rw [heldB_f (fun g => absurd g.hav ‹(x.hav.length : Int) ≠ x.cnt›)]; rfl)
                        | (rw [heldB_f (not_row hxh hxp (rowOk_big (by omega)))]; rfl)
                        | (rw [heldB_f (not_row hxh hxp (rowOk_junk hbf ‹_ ≠ _›))]; rfl)
                        | (rw [heldB_f (fun g => by have g1 := g.have1; have g2 := g.have2; have := within_nof ‹within (haveN x.hav x.hav.length : Nat) 1 (x.cnt - 1) = false›; omega)]; rfl)
                        | (rw [heldB_f (fun g => by have g1 := g.have1; have g2 := g.have2; omega)]; rfl)
                        | (rw [heldB_t ⟨‹_›, ‹_›, ‹_›, by omega, by omega, hr, by have := within_of ‹within (haveN x.hav x.hav.length : Nat) 1 (x.cnt - 1) = true›; omega, by have := within_of ‹within (haveN x.hav x.hav.length : Nat) 1 (x.cnt - 1) = true›; omega, ‹_›⟩]; rfl)
                        | (rw [heldB_t ⟨‹_›, ‹_›, ‹_›, by omega, by omega, hr, by omega, by omega, ‹_›⟩]; rfl)
                    · replace h77 := gtr_nof h77
                      refine vl_q (q_pick_false rfl rfl) (dk rfl) ?_
                      refine vl_nil ?_
                      refine hK16 _ ?_
                      refine vc_cond_false rfl ?_
                      refine vc_skip ?_
                      refine hK11 _ ?_
                      refine vc_region ?_
                      refine vl_q (q_move rfl) (dk rfl) ?_
                      refine vl_q (q_add rfl rfl (IntWalk.i64_in _ (by omega))) (dk rfl) ?_
                      refine vl_q (q_assign rfl) (dk rfl) ?_
                      refine vl_nil ?_
                      refine ⟨_, _, ?_, ⟨i + 1, ⟨by omega, rowsOk_succ hr hxh hxp (rowOk_t (by omega) (by first | exact .inl hbt | exact .inr h68))⟩, rfl, rfl⟩, (Weak.cut _ _ _ (Nat.le_of_ble_eq_true rfl) ⟨⟨rfl, rfl⟩, ⟨iv_eq (by omega), rfl⟩, ⟨rfl, rfl⟩, trivial⟩ ⟨⟨Nat.le_of_ble_eq_true rfl, rfl, belN_all rfl⟩, trivial⟩ rfl)⟩
                      omega
              · replace h46 := lss_nof h46
                refine vl_nil ?_
                refine hK10 _ ?_
                refine vc_cond_false rfl ?_
                refine vc_exit ?_
                refine hK7 _ ?_
                refine vc_seq fun K19 hK19 => ?_
                obtain rfl : i = x.hav.length := by omega
                have hlh := haveN_le x.hav x.hav.length
                refine vc_region ?_
                refine vl_q (q_move rfl) (dk rfl) ?_
                refine vl_two (x := fun b => vv (.bool b)) _ (q_cmp rfl rfl rfl rfl) (dk rfl) (fun h80 => ?_) (fun h80 => ?_)
                · replace h80 := geq_of h80
                  refine vl_q (q_move rfl) (dk rfl) ?_
                  refine vl_guard_on rfl rfl rfl ?_
                  refine vl_q (q_move rfl) (dk rfl) ?_
                  refine vl_guard_on rfl rfl rfl ?_
                  refine vl_q (q_fieldAddr 2 rfl rfl rfl rfl (by decide) rfl rfl) (dk rfl) ?_
                  refine vl_guard_on rfl rfl rfl ?_
                  refine vl_load rfl rfl rfl rfl rfl rfl rfl (by decide) (dk rfl) ?_
                  refine vl_guard_on rfl rfl rfl ?_
                  refine vl_two (x := fun b => vv (.bool b)) _ (q_cmp rfl rfl rfl rfl) (dk rfl) (fun h85 => ?_) (fun h85 => ?_)
                  · replace h85 := lss_of h85
                    refine vl_q (q_pick_true rfl rfl) (dk rfl) ?_
                    refine vl_q (q_assign rfl) (dk rfl) ?_
                    refine vl_nil ?_
                    refine hK19 _ ?_
                    refine vc_ret ?_
                    refine ret_p rfl (.cons (res_tmp rfl) .nil) rfl ?_
                    try simp only [List.length_map] at *
                    first
                      | (rw [heldB_f (fun g => Bool.noConfusion (‹within x.fr 1 99 = false›.symm.trans g.fr))]; rfl)
                      | (rw [heldB_f (fun g => Bool.noConfusion (‹within x.id 0 255 = false›.symm.trans g.id))]; rfl)
                      | (rw [heldB_f (fun g => Bool.noConfusion (‹within x.cnt 2 15 = false›.symm.trans g.cnt))]; rfl)
                      | (rw [heldB_f (fun g => Bool.noConfusion (‹within x.til 0 1000000000 = false›.symm.trans g.til))]; rfl)
                      | (rw [heldB_f (fun g => absurd g.parts ‹(x.parts.length : Int) ≠ x.cnt›)]; rfl)
                      | (rw [heldB_f (fun g => absurd g.hav ‹(x.hav.length : Int) ≠ x.cnt›)]; rfl)
                      | (rw [heldB_f (not_row hxh hxp (rowOk_big (by omega)))]; rfl)
                      | (rw [heldB_f (not_row hxh hxp (rowOk_junk hbf ‹_ ≠ _›))]; rfl)
                      | (rw [heldB_f (fun g => by have g1 := g.have1; have g2 := g.have2; have := within_nof ‹within (haveN x.hav x.hav.length : Nat) 1 (x.cnt - 1) = false›; omega)]; rfl)
                      | (rw [heldB_f (fun g => by have g1 := g.have1; have g2 := g.have2; omega)]; rfl)
                      | (rw [heldB_t ⟨‹_›, ‹_›, ‹_›, by omega, by omega, hr, by have := within_of ‹within (haveN x.hav x.hav.length : Nat) 1 (x.cnt - 1) = true›; omega, by have := within_of ‹within (haveN x.hav x.hav.length : Nat) 1 (x.cnt - 1) = true›; omega, ‹_›⟩]; rfl)
                      | (rw [heldB_t ⟨‹_›, ‹_›, ‹_›, by omega, by omega, hr, by omega, by omega, ‹_›⟩]; rfl)
                  · replace h85 := lss_nof h85
                    refine vl_q (q_pick_true rfl rfl) (dk rfl) ?_
                    refine vl_q (q_assign rfl) (dk rfl) ?_
                    refine vl_nil ?_
                    refine hK19 _ ?_
                    refine vc_ret ?_
                    refine ret_p rfl (.cons (res_tmp rfl) .nil) rfl ?_
                    try simp only [List.length_map] at *
                    first
                      | (rw [heldB_f (fun g => Bool.noConfusion (‹within x.fr 1 99 = false›.symm.trans g.fr))]; rfl)
                      | (rw [heldB_f (fun g => Bool.noConfusion (‹within x.id 0 255 = false›.symm.trans g.id))]; rfl)
                      | (rw [heldB_f (fun g => Bool.noConfusion (‹within x.cnt 2 15 = false›.symm.trans g.cnt))]; rfl)
                      | (rw [heldB_f (fun g => Bool.noConfusion (‹within x.til 0 1000000000 = false›.symm.trans g.til))]; rfl)
                      | (rw [heldB_f (fun g => absurd g.parts ‹(x.parts.length : Int) ≠ x.cnt›)]; rfl)
                      | (rw [heldB_f (fun g => absurd g.hav ‹(x.hav.length : Int) ≠ x.cnt›)]; rfl)
                      | (rw [heldB_f (not_row hxh hxp (rowOk_big (by omega)))]; rfl)
                      | (rw [heldB_f (not_row hxh hxp (rowOk_junk hbf ‹_ ≠ _›))]; rfl)
                      | (rw [heldB_f (fun g => by have g1 := g.have1; have g2 := g.have2; have := within_nof ‹within (haveN x.hav x.hav.length : Nat) 1 (x.cnt - 1) = false›; omega)]; rfl)
                      | (rw [heldB_f (fun g => by have g1 := g.have1; have g2 := g.have2; omega)]; rfl)
                      | (rw [heldB_t ⟨‹_›, ‹_›, ‹_›, by omega, by omega, hr, by have := within_of ‹within (haveN x.hav x.hav.length : Nat) 1 (x.cnt - 1) = true›; omega, by have := within_of ‹within (haveN x.hav x.hav.length : Nat) 1 (x.cnt - 1) = true›; omega, ‹_›⟩]; rfl)
                      | (rw [heldB_t ⟨‹_›, ‹_›, ‹_›, by omega, by omega, hr, by omega, by omega, ‹_›⟩]; rfl)
                · replace h80 := geq_nof h80
                  refine vl_q (q_move rfl) (dk rfl) ?_
                  refine vl_goff rfl rfl rfl (by decide) (dk rfl) ?_
                  refine vl_goff rfl rfl rfl (by decide) (dk rfl) ?_
                  refine vl_goff rfl rfl rfl (by decide) (dk rfl) ?_
                  refine vl_goff rfl rfl rfl (by decide) (dk rfl) ?_
                  refine vl_q (q_pick_false rfl rfl) (dk rfl) ?_
                  refine vl_q (q_assign rfl) (dk rfl) ?_
                  refine vl_nil ?_
                  refine hK19 _ ?_
                  refine vc_ret ?_
                  refine ret_p rfl (.cons (res_tmp rfl) .nil) rfl ?_
                  try simp only [List.length_map] at *
                  first
                    | (rw [heldB_f (fun g => Bool.noConfusion (‹within x.fr 1 99 = false›.symm.trans g.fr))]; rfl)
                    | (rw [heldB_f (fun g => Bool.noConfusion (‹within x.id 0 255 = false›.symm.trans g.id))]; rfl)
                    | (rw [heldB_f (fun g => Bool.noConfusion (‹within x.cnt 2 15 = false›.symm.trans g.cnt))]; rfl)
                    | (rw [heldB_f (fun g => Bool.noConfusion (‹within x.til 0 1000000000 = false›.symm.trans g.til))]; rfl)
                    | (rw [heldB_f (fun g => absurd g.parts ‹(x.parts.length : Int) ≠ x.cnt›)]; rfl)
                    | (rw [heldB_f (fun g => absurd g.hav ‹(x.hav.length : Int) ≠ x.cnt›)]; rfl)
                    | (rw [heldB_f (not_row hxh hxp (rowOk_big (by omega)))]; rfl)
                    | (rw [heldB_f (not_row hxh hxp (rowOk_junk hbf ‹_ ≠ _›))]; rfl)
                    | (rw [heldB_f (fun g => by have g1 := g.have1; have g2 := g.have2; have := within_nof ‹within (haveN x.hav x.hav.length : Nat) 1 (x.cnt - 1) = false›; omega)]; rfl)
                    | (rw [heldB_f (fun g => by have g1 := g.have1; have g2 := g.have2; omega)]; rfl)
                    | (rw [heldB_t ⟨‹_›, ‹_›, ‹_›, by omega, by omega, hr, by have := within_of ‹within (haveN x.hav x.hav.length : Nat) 1 (x.cnt - 1) = true›; omega, by have := within_of ‹within (haveN x.hav x.hav.length : Nat) 1 (x.cnt - 1) = true›; omega, ‹_›⟩]; rfl)
                    | (rw [heldB_t ⟨‹_›, ‹_›, ‹_›, by omega, by omega, hr, by omega, by omega, ‹_›⟩]; rfl)
            · refine vl_guard_on rfl rfl rfl ?_
              refine vl_q (q_not rfl) (dk rfl) ?_
              refine vl_q (q_pick_false rfl rfl) (dk rfl) ?_
              refine vl_nil ?_
              refine hK3 _ ?_
              refine vc_cond_true rfl ?_
              refine vc_seq fun K20 hK20 => ?_
              refine vc_region ?_
              refine vl_q (q_assign rfl) (dk rfl) ?_
              refine vl_nil ?_
              refine hK20 _ ?_
              refine vc_ret ?_
              refine ret_p rfl (.cons (res_tmp rfl) .nil) rfl ?_
              try simp only [List.length_map] at *
              first
                | (rw [heldB_f (fun g => Bool.noConfusion (‹within x.fr 1 99 = false›.symm.trans g.fr))]; rfl)
                | (rw [heldB_f (fun g => Bool.noConfusion (‹within x.id 0 255 = false›.symm.trans g.id))]; rfl)
                | (rw [heldB_f (fun g => Bool.noConfusion (‹within x.cnt 2 15 = false›.symm.trans g.cnt))]; rfl)
                | (rw [heldB_f (fun g => Bool.noConfusion (‹within x.til 0 1000000000 = false›.symm.trans g.til))]; rfl)
                | (rw [heldB_f (fun g => absurd g.parts ‹(x.parts.length : Int) ≠ x.cnt›)]; rfl)
                | (rw [heldB_f (fun g => absurd g.hav ‹(x.hav.length : Int) ≠ x.cnt›)]; rfl)
                | (rw [heldB_f (not_row hxh hxp (rowOk_big (by omega)))]; rfl)
                | (rw [heldB_f (not_row hxh hxp (rowOk_junk hbf ‹_ ≠ _›))]; rfl)
                | (rw [heldB_f (fun g => by have g1 := g.have1; have g2 := g.have2; have := within_nof ‹within (haveN x.hav x.hav.length : Nat) 1 (x.cnt - 1) = false›; omega)]; rfl)
                | (rw [heldB_f (fun g => by have g1 := g.have1; have g2 := g.have2; omega)]; rfl)
                | (rw [heldB_t ⟨‹_›, ‹_›, ‹_›, by omega, by omega, hr, by have := within_of ‹within (haveN x.hav x.hav.length : Nat) 1 (x.cnt - 1) = true›; omega, by have := within_of ‹within (haveN x.hav x.hav.length : Nat) 1 (x.cnt - 1) = true›; omega, ‹_›⟩]; rfl)
                | (rw [heldB_t ⟨‹_›, ‹_›, ‹_›, by omega, by omega, hr, by omega, by omega, ‹_›⟩]; rfl)
      · refine vl_guard_on rfl rfl rfl ?_
        refine vl_q (q_not rfl) (dk rfl) ?_
        refine vl_q (q_pick_false rfl rfl) (dk rfl) ?_
        refine vl_q (q_move rfl) (dk rfl) ?_
        refine vl_goff rfl rfl rfl (by decide) (dk rfl) ?_
        refine vl_goff rfl rfl rfl (by decide) (dk rfl) ?_
        refine vl_goff rfl rfl rfl (by decide) (dk rfl) ?_
        refine vl_goff rfl rfl rfl (by decide) (dk rfl) ?_
        refine vl_goff rfl rfl rfl (by decide) (dk rfl) ?_
        refine vl_goff rfl rfl rfl (by decide) (dk rfl) ?_
        refine vl_q (q_pick_true rfl rfl) (dk rfl) ?_
        refine vl_q (q_move rfl) (dk rfl) ?_
        refine vl_goff rfl rfl rfl (by decide) (dk rfl) ?_
        refine vl_goff rfl rfl rfl (by decide) (dk rfl) ?_
        refine vl_goff rfl rfl rfl (by decide) (dk rfl) ?_
        refine vl_goff rfl rfl rfl (by decide) (dk rfl) ?_
        refine vl_goff rfl rfl rfl (by decide) (dk rfl) ?_
        refine vl_goff rfl rfl rfl (by decide) (dk rfl) ?_
        refine vl_q (q_pick_true rfl rfl) (dk rfl) ?_
        refine vl_q (q_move rfl) (dk rfl) ?_
        refine vl_goff rfl rfl rfl (by decide) (dk rfl) ?_
        refine vl_goff rfl rfl rfl (by decide) (dk rfl) ?_
        refine vl_goff rfl rfl rfl (by decide) (dk rfl) ?_
        refine vl_goff rfl rfl rfl (by decide) (dk rfl) ?_
        refine vl_q (q_pick_true rfl rfl) (dk rfl) ?_
        refine vl_nil ?_
        refine hK3 _ ?_
        refine vc_cond_true rfl ?_
        refine vc_seq fun K21 hK21 => ?_
        refine vc_region ?_
        refine vl_q (q_assign rfl) (dk rfl) ?_
        refine vl_nil ?_
        refine hK21 _ ?_
        refine vc_ret ?_
        refine ret_p rfl (.cons (res_tmp rfl) .nil) rfl ?_
        try simp only [List.length_map] at *
        first
          | (rw [heldB_f (fun g => Bool.noConfusion (‹within x.fr 1 99 = false›.symm.trans g.fr))]; rfl)
          | (rw [heldB_f (fun g => Bool.noConfusion (‹within x.id 0 255 = false›.symm.trans g.id))]; rfl)
          | (rw [heldB_f (fun g => Bool.noConfusion (‹within x.cnt 2 15 = false›.symm.trans g.cnt))]; rfl)
          | (rw [heldB_f (fun g => Bool.noConfusion (‹within x.til 0 1000000000 = false›.symm.trans g.til))]; rfl)
          | (rw [heldB_f (fun g => absurd g.parts ‹(x.parts.length : Int) ≠ x.cnt›)]; rfl)
          | (rw [heldB_f (fun g => absurd g.hav ‹(x.hav.length : Int) ≠ x.cnt›)]; rfl)
          | (rw [heldB_f (not_row hxh hxp (rowOk_big (by omega)))]; rfl)
          | (rw [heldB_f (not_row hxh hxp (rowOk_junk hbf ‹_ ≠ _›))]; rfl)
          | (rw [heldB_f (fun g => by have g1 := g.have1; have g2 := g.have2; have := within_nof ‹within (haveN x.hav x.hav.length : Nat) 1 (x.cnt - 1) = false›; omega)]; rfl)
          | (rw [heldB_f (fun g => by have g1 := g.have1; have g2 := g.have2; omega)]; rfl)
          | (rw [heldB_t ⟨‹_›, ‹_›, ‹_›, by omega, by omega, hr, by have := within_of ‹within (haveN x.hav x.hav.length : Nat) 1 (x.cnt - 1) = true›; omega, by have := within_of ‹within (haveN x.hav x.hav.length : Nat) 1 (x.cnt - 1) = true›; omega, ‹_›⟩]; rfl)
          | (rw [heldB_t ⟨‹_›, ‹_›, ‹_›, by omega, by omega, hr, by omega, by omega, ‹_›⟩]; rfl)
    · refine vl_guard_on rfl rfl rfl ?_
      refine vl_q (q_not rfl) (dk rfl) ?_
      refine vl_q (q_pick_false rfl rfl) (dk rfl) ?_
      refine vl_q (q_move rfl) (dk rfl) ?_
      refine vl_goff rfl rfl rfl (by decide) (dk rfl) ?_
      refine vl_goff rfl rfl rfl (by decide) (dk rfl) ?_
      refine vl_goff rfl rfl rfl (by decide) (dk rfl) ?_
      refine vl_goff rfl rfl rfl (by decide) (dk rfl) ?_
      refine vl_q (q_pick_true rfl rfl) (dk rfl) ?_
      refine vl_q (q_move rfl) (dk rfl) ?_
      refine vl_goff rfl rfl rfl (by decide) (dk rfl) ?_
      refine vl_goff rfl rfl rfl (by decide) (dk rfl) ?_
      refine vl_goff rfl rfl rfl (by decide) (dk rfl) ?_
      refine vl_goff rfl rfl rfl (by decide) (dk rfl) ?_
      refine vl_goff rfl rfl rfl (by decide) (dk rfl) ?_
      refine vl_goff rfl rfl rfl (by decide) (dk rfl) ?_
      refine vl_q (q_pick_true rfl rfl) (dk rfl) ?_
      refine vl_q (q_move rfl) (dk rfl) ?_
      refine vl_goff rfl rfl rfl (by decide) (dk rfl) ?_
      refine vl_goff rfl rfl rfl (by decide) (dk rfl) ?_
      refine vl_goff rfl rfl rfl (by decide) (dk rfl) ?_
      refine vl_goff rfl rfl rfl (by decide) (dk rfl) ?_
      refine vl_goff rfl rfl rfl (by decide) (dk rfl) ?_
      refine vl_goff rfl rfl rfl (by decide) (dk rfl) ?_
      refine vl_q (q_pick_true rfl rfl) (dk rfl) ?_
      refine vl_q (q_move rfl) (dk rfl) ?_
      refine vl_goff rfl rfl rfl (by decide) (dk rfl) ?_
      refine vl_goff rfl rfl rfl (by decide) (dk rfl) ?_
      refine vl_goff rfl rfl rfl (by decide) (dk rfl) ?_
      refine vl_goff rfl rfl rfl (by decide) (dk rfl) ?_
      refine vl_q (q_pick_true rfl rfl) (dk rfl) ?_
      refine vl_nil ?_
      refine hK3 _ ?_
      refine vc_cond_true rfl ?_
      refine vc_seq fun K22 hK22 => ?_
      refine vc_region ?_
      refine vl_q (q_assign rfl) (dk rfl) ?_
      refine vl_nil ?_
      refine hK22 _ ?_
      refine vc_ret ?_
      refine ret_p rfl (.cons (res_tmp rfl) .nil) rfl ?_
      try simp only [List.length_map] at *
      first
        | (rw [heldB_f (fun g => Bool.noConfusion (‹within x.fr 1 99 = false›.symm.trans g.fr))]; rfl)
        | (rw [heldB_f (fun g => Bool.noConfusion (‹within x.id 0 255 = false›.symm.trans g.id))]; rfl)
        | (rw [heldB_f (fun g => Bool.noConfusion (‹within x.cnt 2 15 = false›.symm.trans g.cnt))]; rfl)
        | (rw [heldB_f (fun g => Bool.noConfusion (‹within x.til 0 1000000000 = false›.symm.trans g.til))]; rfl)
        | (rw [heldB_f (fun g => absurd g.parts ‹(x.parts.length : Int) ≠ x.cnt›)]; rfl)
        | (rw [heldB_f (fun g => absurd g.hav ‹(x.hav.length : Int) ≠ x.cnt›)]; rfl)
        | (rw [heldB_f (not_row hxh hxp (rowOk_big (by omega)))]; rfl)
        | (rw [heldB_f (not_row hxh hxp (rowOk_junk hbf ‹_ ≠ _›))]; rfl)
        | (rw [heldB_f (fun g => by have g1 := g.have1; have g2 := g.have2; have := within_nof ‹within (haveN x.hav x.hav.length : Nat) 1 (x.cnt - 1) = false›; omega)]; rfl)
        | (rw [heldB_f (fun g => by have g1 := g.have1; have g2 := g.have2; omega)]; rfl)
        | (rw [heldB_t ⟨‹_›, ‹_›, ‹_›, by omega, by omega, hr, by have := within_of ‹within (haveN x.hav x.hav.length : Nat) 1 (x.cnt - 1) = true›; omega, by have := within_of ‹within (haveN x.hav x.hav.length : Nat) 1 (x.cnt - 1) = true›; omega, ‹_›⟩]; rfl)
        | (rw [heldB_t ⟨‹_›, ‹_›, ‹_›, by omega, by omega, hr, by omega, by omega, ‹_›⟩]; rfl)
  · refine vl_q (q_not rfl) (dk rfl) ?_
    refine vl_q (q_move rfl) (dk rfl) ?_
    refine vl_goff rfl rfl rfl (by decide) (dk rfl) ?_
    refine vl_goff rfl rfl rfl (by decide) (dk rfl) ?_
    refine vl_goff rfl rfl rfl (by decide) (dk rfl) ?_
    refine vl_goff rfl rfl rfl (by decide) (dk rfl) ?_
    refine vl_q (q_pick_true rfl rfl) (dk rfl) ?_
    refine vl_q (q_move rfl) (dk rfl) ?_
    refine vl_goff rfl rfl rfl (by decide) (dk rfl) ?_
    refine vl_goff rfl rfl rfl (by decide) (dk rfl) ?_
    refine vl_goff rfl rfl rfl (by decide) (dk rfl) ?_
    refine vl_goff rfl rfl rfl (by decide) (dk rfl) ?_
    refine vl_q (q_pick_true rfl rfl) (dk rfl) ?_
    refine vl_q (q_move rfl) (dk rfl) ?_
    refine vl_goff rfl rfl rfl (by decide) (dk rfl) ?_
    refine vl_goff rfl rfl rfl (by decide) (dk rfl) ?_
    refine vl_goff rfl rfl rfl (by decide) (dk rfl) ?_
    refine vl_goff rfl rfl rfl (by decide) (dk rfl) ?_
    refine vl_goff rfl rfl rfl (by decide) (dk rfl) ?_
    refine vl_goff rfl rfl rfl (by decide) (dk rfl) ?_
    refine vl_q (q_pick_true rfl rfl) (dk rfl) ?_
    refine vl_q (q_move rfl) (dk rfl) ?_
    refine vl_goff rfl rfl rfl (by decide) (dk rfl) ?_
    refine vl_goff rfl rfl rfl (by decide) (dk rfl) ?_
    refine vl_goff rfl rfl rfl (by decide) (dk rfl) ?_
    refine vl_goff rfl rfl rfl (by decide) (dk rfl) ?_
    refine vl_goff rfl rfl rfl (by decide) (dk rfl) ?_
    refine vl_goff rfl rfl rfl (by decide) (dk rfl) ?_
    refine vl_q (q_pick_true rfl rfl) (dk rfl) ?_
    refine vl_q (q_move rfl) (dk rfl) ?_
    refine vl_goff rfl rfl rfl (by decide) (dk rfl) ?_
    refine vl_goff rfl rfl rfl (by decide) (dk rfl) ?_
    refine vl_goff rfl rfl rfl (by decide) (dk rfl) ?_
    refine vl_goff rfl rfl rfl (by decide) (dk rfl) ?_
    refine vl_q (q_pick_true rfl rfl) (dk rfl) ?_
    refine vl_nil ?_
    refine hK3 _ ?_
    refine vc_cond_true rfl ?_
    refine vc_seq fun K23 hK23 => ?_
    refine vc_region ?_
    refine vl_q (q_assign rfl) (dk rfl) ?_
    refine vl_nil ?_
    refine hK23 _ ?_
    refine vc_ret ?_
    refine ret_p rfl (.cons (res_tmp rfl) .nil) rfl ?_
    try simp only [List.length_map] at *
    first
      | (rw [heldB_f (fun g => Bool.noConfusion (‹within x.fr 1 99 = false›.symm.trans g.fr))]; rfl)
      | (rw [heldB_f (fun g => Bool.noConfusion (‹within x.id 0 255 = false›.symm.trans g.id))]; rfl)
      | (rw [heldB_f (fun g => Bool.noConfusion (‹within x.cnt 2 15 = false›.symm.trans g.cnt))]; rfl)
      | (rw [heldB_f (fun g => Bool.noConfusion (‹within x.til 0 1000000000 = false›.symm.trans g.til))]; rfl)
      | (rw [heldB_f (fun g => absurd g.parts ‹(x.parts.length : Int) ≠ x.cnt›)]; rfl)
      | (rw [heldB_f (fun g => absurd g.hav ‹(x.hav.length : Int) ≠ x.cnt›)]; rfl)
      | (rw [heldB_f (not_row hxh hxp (rowOk_big (by omega)))]; rfl)
      | (rw [heldB_f (not_row hxh hxp (rowOk_junk hbf ‹_ ≠ _›))]; rfl)
      | (rw [heldB_f (fun g => by have g1 := g.have1; have g2 := g.have2; have := within_nof ‹within (haveN x.hav x.hav.length : Nat) 1 (x.cnt - 1) = false›; omega)]; rfl)
      | (rw [heldB_f (fun g => by have g1 := g.have1; have g2 := g.have2; omega)]; rfl)
      | (rw [heldB_t ⟨‹_›, ‹_›, ‹_›, by omega, by omega, hr, by have := within_of ‹within (haveN x.hav x.hav.length : Nat) 1 (x.cnt - 1) = true›; omega, by have := within_of ‹within (haveN x.hav x.hav.length : Nat) 1 (x.cnt - 1) = true›; omega, ‹_›⟩]; rfl)
      | (rw [heldB_t ⟨‹_›, ‹_›, ‹_›, by omega, by omega, hr, by omega, by omega, ‹_›⟩]; rfl)
theorem at51 : FnAt Pg 51 Go.Proofs.Try.f51 := ⟨by kernel_rfl, rfl, by decide⟩
theorem c_spec_l20All (x : Held) :
    Ctr Pg ty 51 [.agg ((heldC x).map X.c)] [] (Gives (vv (.bool (x.hav.all id))) [] []) := by
  refine ctr at51 rfl (nsK_gives rfl trivial trivial) (Nat.le_of_ble_eq_true rfl) fun w0 S0 L0 Z => ?_
  refine vc_seq fun K1 hK1 => ?_
  refine vc_region ?_
  refine vl_box rfl (dk rfl) ?_
  refine vl_q (q_assign rfl) (dk rfl) ?_
  refine vl_nil ?_
  refine hK1 _ ?_
  refine vc_seq fun K2 hK2 => ?_
  refine vc_seq fun K3 hK3 => ?_
  refine vc_region ?_
  refine vl_q (q_assign rfl) (dk rfl) ?_
  refine vl_nil ?_
  refine hK3 _ ?_
  refine vc_block ?_
  refine vc_loop (fun mz st => ∃ i : Nat, (i ≤ x.hav.length ∧ ∀ j (hj : j < x.hav.length), j < i → x.hav[j] = true) ∧ mz = x.hav.length - i ∧ st = mkSt [(1, .v (.one (.ptr 16 0 0))), (3, .v (iv i))] [(16, ⟨6, [(heldC x).map X.c]⟩)] 17) ⟨_, _, ⟨0, ⟨by omega, fun j _ h => absurd h (by omega)⟩, rfl, rfl⟩, (Weak.cut _ _ _ (Nat.le_of_ble_eq_true rfl) ⟨⟨rfl, rfl⟩, ⟨rfl, rfl⟩, trivial⟩ ⟨⟨Nat.le_of_ble_eq_true rfl, rfl, belN_all rfl⟩, trivial⟩ rfl)⟩ (fun mz st hI => ?_)
  obtain ⟨i, ⟨hi, ha⟩, hmz, rfl⟩ := hI
  refine vc_seq fun K4 hK4 => ?_
  refine vc_seq fun K5 hK5 => ?_
  refine vc_region ?_
  refine vl_q (q_move rfl) (dk rfl) ?_
  refine vl_q (q_fieldAddr 4 rfl rfl rfl rfl (by decide) rfl rfl) (dk rfl) ?_
  refine vl_load rfl rfl rfl rfl rfl rfl rfl (by decide) (dk rfl) ?_
  refine vl_fact (fun a w g => good_lim (x := .tmp 6) rfl g) fun hlen => ?_
  rw [List.length_map] at hlen
  refine vl_q (q_len_sh rfl rfl rfl) (dk rfl) ?_
  simp only [List.length_map]
  refine vl_two (x := fun b => vv (.bool b)) _ (q_cmp rfl rfl rfl rfl) (dk rfl) (fun h8 => ?_) (fun h8 => ?_)
  · replace h8 := lss_of h8
    refine vl_nil ?_
    refine hK5 _ ?_
    refine vc_cond_true rfl ?_
    refine vc_skip ?_
    refine hK4 _ ?_
    refine vc_seq fun K6 hK6 => ?_
    refine vc_block ?_
    refine vc_seq fun K7 hK7 => ?_
    have hxh : i < x.hav.length := by omega
    refine vc_region ?_
    refine vl_q (q_fieldAddr 4 rfl rfl rfl rfl (by decide) rfl rfl) (dk rfl) ?_
    refine vl_load rfl rfl rfl rfl rfl rfl rfl (by decide) (dk rfl) ?_
    refine vl_q (q_move rfl) (dk rfl) ?_
    refine vl_q (q_indexAddr_sh rfl rfl rfl rfl rfl rfl (by decide) (by omega) (get_map (i := i) hxh)) (dk rfl) ?_
    refine vl_load_sp rfl rfl rfl rfl (by decide) (dk rfl) ?_
    refine vl_bool 15 rfl (fun h15 => ?_) (fun h15 => ?_)
    · have hbt : x.hav[i] = true := h15
      refine vl_q (q_not rfl) (dk rfl) ?_
      refine vl_nil ?_
      refine hK7 _ ?_
      refine vc_cond_false rfl ?_
      refine vc_skip ?_
      refine hK6 _ ?_
      refine vc_region ?_
      refine vl_q (q_move rfl) (dk rfl) ?_
      refine vl_q (q_add rfl rfl (IntWalk.i64_in _ (by omega))) (dk rfl) ?_
      refine vl_q (q_assign rfl) (dk rfl) ?_
      refine vl_nil ?_
      refine ⟨_, _, ?_, ⟨i + 1, ⟨by omega, fun j hj h => by by_cases e : j = i; (subst e; exact hbt); exact ha j hj (by omega)⟩, rfl, rfl⟩, (Weak.cut _ _ _ (Nat.le_of_ble_eq_true rfl) ⟨⟨rfl, rfl⟩, ⟨rfl, rfl⟩, trivial⟩ ⟨⟨Nat.le_of_ble_eq_true rfl, rfl, belN_all rfl⟩, trivial⟩ rfl)⟩
      omega
    · have hbf : x.hav[i] = false := h15
      refine vl_q (q_not rfl) (dk rfl) ?_
      refine vl_nil ?_
      refine hK7 _ ?_
      refine vc_cond_true rfl ?_
      refine vc_seq fun K8 hK8 => ?_
      refine vc_region ?_
      refine vl_q (q_assign rfl) (dk rfl) ?_
      refine vl_nil ?_
      refine hK8 _ ?_
      refine vc_ret ?_
      refine ret_p rfl (.cons (res_tmp rfl) .nil) rfl ?_
      rw [all_f hxh hbf]; rfl
  · replace h8 := lss_nof h8
    refine vl_nil ?_
    refine hK5 _ ?_
    refine vc_cond_false rfl ?_
    refine vc_exit ?_
    refine hK2 _ ?_
    refine vc_seq fun K9 hK9 => ?_
    refine vc_region ?_
    refine vl_q (q_assign rfl) (dk rfl) ?_
    refine vl_nil ?_
    refine hK9 _ ?_
    refine vc_ret ?_
    refine ret_p rfl (.cons (res_tmp rfl) .nil) rfl ?_
    rw [all_t (fun j hj => ha j hj (by omega))]; rfl
end Go.Vm.S
namespace Go.Vm.S
open Go Go.Vm
set_option maxRecDepth 100000
set_option linter.unusedVariables false
set_option maxHeartbeats 4000000
theorem at50 : FnAt Pg 50 Go.Proofs.Try.f50 := ⟨by kernel_rfl, rfl, by decide⟩
theorem c_spec_ShelfOk (l : List Held) :
    Ctr Pg ty 50 [.agg ((shelfC l).map X.c)] [] (Gives (vv (.bool (shelfB l))) [] []) := by
  refine ctr at50 rfl (nsK_gives rfl trivial trivial) (Nat.le_of_ble_eq_true rfl) fun w0 S0 L0 Z => ?_
  refine vc_seq fun K1 hK1 => ?_
  refine vc_region ?_
  refine vl_box rfl (dk rfl) ?_
  refine vl_q (q_assign rfl) (dk rfl) ?_
  refine vl_nil ?_
  refine hK1 _ ?_
  refine vc_seq fun K2 hK2 => ?_
  refine vc_seq fun K3 hK3 => ?_
  refine vc_region ?_
  refine vl_q (q_assign rfl) (dk rfl) ?_
  refine vl_nil ?_
  refine hK3 _ ?_
  refine vc_block ?_
  refine vc_loop (fun mz st => ∃ i : Nat, (i ≤ l.length ∧ goodTo l i) ∧ mz = l.length - i ∧ st = mkSt [(1, .v (.one (.ptr 16 0 0))), (3, .v (iv i))] [(16, ⟨1, [(shelfC l).map X.c]⟩)] 17) ⟨_, _, ⟨0, ⟨by omega, fun j _ h => absurd h (by omega)⟩, rfl, rfl⟩, (Weak.cut _ _ _ (Nat.le_of_ble_eq_true rfl) ⟨⟨rfl, rfl⟩, ⟨rfl, rfl⟩, trivial⟩ ⟨⟨Nat.le_of_ble_eq_true rfl, rfl, belN_all rfl⟩, trivial⟩ rfl)⟩ (fun mz st hI => ?_)
  obtain ⟨i, ⟨hi, hg⟩, hmz, rfl⟩ := hI
  refine vc_seq fun K4 hK4 => ?_
  refine vc_seq fun K5 hK5 => ?_
  refine vc_region ?_
  refine vl_q (q_move rfl) (dk rfl) ?_
  refine vl_q (q_fieldAddr 0 rfl rfl rfl rfl (by decide) rfl rfl) (dk rfl) ?_
  refine vl_load rfl rfl rfl rfl rfl rfl rfl (by decide) (dk rfl) ?_
  refine vl_fact (fun a w g => good_lim (x := .tmp 7) rfl g) fun hlen => ?_
  rw [List.length_map] at hlen
  refine vl_q (q_len_sh rfl rfl rfl) (dk rfl) ?_
  simp only [List.length_map]
  refine vl_two (x := fun b => vv (.bool b)) _ (q_cmp rfl rfl rfl rfl) (dk rfl) (fun h9 => ?_) (fun h9 => ?_)
  · replace h9 := lss_of h9
    refine vl_nil ?_
    refine hK5 _ ?_
    refine vc_cond_true rfl ?_
    refine vc_skip ?_
    refine hK4 _ ?_
    refine vc_seq fun K6 hK6 => ?_
    refine vc_block ?_
    refine vc_seq fun K7 hK7 => ?_
    refine vc_seq fun K8 hK8 => ?_
    have hil : i < l.length := by omega
    refine vc_region ?_
    refine vl_q (q_fieldAddr 0 rfl rfl rfl rfl (by decide) rfl rfl) (dk rfl) ?_
    refine vl_load rfl rfl rfl rfl rfl rfl rfl (by decide) (dk rfl) ?_
    refine vl_q (q_move rfl) (dk rfl) ?_
    refine vl_q (q_indexAddr_sh rfl rfl rfl rfl rfl rfl (by decide) (by omega) (get_map (i := i) hil)) (dk rfl) ?_
    refine vl_load_sp rfl rfl rfl rfl (by decide) (dk rfl) ?_
    refine vl_callP (c_spec_l20Held l[i]) rfl rfl ⟨VOk.agg ⟨XOk.val _, XOk.val _, XOk.val _, XOk.shc _ _, XOk.shc _ _, XOk.val _, trivial⟩, trivial⟩ rfl (.inl rfl) (dk rfl) ?_
    refine vl_bool 17 rfl (fun h17 => ?_) (fun h17 => ?_)
    · have hgr : HeldGood l[i] := of_decide_eq_true h17
      refine vl_q (q_not rfl) (dk rfl) ?_
      refine vl_nil ?_
      refine hK8 _ ?_
      refine vc_cond_false rfl ?_
      refine vc_skip ?_
      refine hK7 _ ?_
      refine vc_seq fun K9 hK9 => ?_
      refine vc_region ?_
      refine vl_q (q_assign rfl) (dk rfl) ?_
      refine vl_nil ?_
      refine hK9 _ ?_
      refine vc_block ?_
      refine vc_loop (fun mz st => ∃ k : Nat, (k ≤ i ∧ ∀ q (hq : q < l.length), q < k → sameK l[i].fr l[i].id l[q] = false) ∧ mz = i - k ∧ st = mkSt [(1, .v (.one (.ptr 16 0 0))), (3, .v (iv i)), (4, .v (iv k))] [(16, ⟨1, [(shelfC l).map X.c]⟩)] 17) ⟨_, _, ⟨0, ⟨by omega, fun q _ h => absurd h (by omega)⟩, rfl, rfl⟩, (Weak.cut _ _ _ (Nat.le_of_ble_eq_true rfl) ⟨⟨rfl, rfl⟩, ⟨rfl, rfl⟩, ⟨rfl, rfl⟩, trivial⟩ ⟨⟨Nat.le_of_ble_eq_true rfl, rfl, belN_all rfl⟩, trivial⟩ rfl)⟩ (fun mz st hI => ?_)
      obtain ⟨k, ⟨hki, hkk⟩, hmz, rfl⟩ := hI
      refine vc_seq fun K10 hK10 => ?_
      refine vc_seq fun K11 hK11 => ?_
      refine vc_region ?_
      refine vl_q (q_move rfl) (dk rfl) ?_
      refine vl_q (q_move rfl) (dk rfl) ?_
      refine vl_two (x := fun b => vv (.bool b)) _ (q_cmp rfl rfl rfl rfl) (dk rfl) (fun h21 => ?_) (fun h21 => ?_)
      · replace h21 := lss_of h21
        refine vl_nil ?_
        refine hK11 _ ?_
        refine vc_cond_true rfl ?_
        refine vc_skip ?_
        refine hK10 _ ?_
        refine vc_seq fun K12 hK12 => ?_
        refine vc_block ?_
        refine vc_seq fun K13 hK13 => ?_
        have hkl : k < l.length := by omega
        refine vc_region_any mixed (fun n => Nat.beq n 16) true rfl rfl (fun _ hU14 => hU14) fun w1 S1 L1 Z1 H1 => ?_
        refine va_q 0 rfl (by kernel_rfl) (by kernel_rfl) (by kernel_rfl) (q_fieldAddr 0 rfl rfl rfl rfl (by decide) rfl rfl) (dk rfl) ?_
        refine va_q 1 rfl (by kernel_rfl) (by kernel_rfl) (by kernel_rfl) (q_load rfl rfl rfl rfl rfl rfl rfl (by decide)) (dk rfl) ?_
        refine va_q 2 rfl (by kernel_rfl) (by kernel_rfl) (by kernel_rfl) (q_move rfl) (dk rfl) ?_
        refine va_q 3 rfl (by kernel_rfl) (by kernel_rfl) (by kernel_rfl) (q_indexAddr_sh rfl rfl rfl rfl rfl rfl (by decide) (by omega) (get_map (i := k) hkl)) (dk rfl) ?_
        refine va_q 4 rfl (by kernel_rfl) (by kernel_rfl) (by kernel_rfl) (q_fieldAddr_sp rfl rfl rfl rfl (by decide) rfl) (dk rfl) ?_
        refine va_q 5 rfl (by kernel_rfl) (by kernel_rfl) (by kernel_rfl) (q_load_sp rfl rfl rfl rfl rfl (by decide)) (dk rfl) ?_
        refine va_q 6 rfl (by kernel_rfl) (by kernel_rfl) (by kernel_rfl) (q_fieldAddr 0 rfl rfl rfl rfl (by decide) rfl rfl) (dk rfl) ?_
        refine va_q 7 rfl (by kernel_rfl) (by kernel_rfl) (by kernel_rfl) (q_load rfl rfl rfl rfl rfl rfl rfl (by decide)) (dk rfl) ?_
        refine va_q 8 rfl (by kernel_rfl) (by kernel_rfl) (by kernel_rfl) (q_move rfl) (dk rfl) ?_
        refine va_q 9 rfl (by kernel_rfl) (by kernel_rfl) (by kernel_rfl) (q_indexAddr_sh rfl rfl rfl rfl rfl rfl (by decide) (by omega) (get_map (i := i) hil)) (dk rfl) ?_
        refine va_q 10 rfl (by kernel_rfl) (by kernel_rfl) (by kernel_rfl) (q_fieldAddr_sp rfl rfl rfl rfl (by decide) rfl) (dk rfl) ?_
        refine va_q 11 rfl (by kernel_rfl) (by kernel_rfl) (by kernel_rfl) (q_load_sp rfl rfl rfl rfl rfl (by decide)) (dk rfl) ?_
        refine va_two 12 (x := fun b => vv (.bool b)) _ rfl (by kernel_rfl) (by kernel_rfl) (by kernel_rfl) (q_cmp rfl rfl rfl rfl) (dk rfl) (fun h36 => ?_) (fun h36 => ?_)
        · replace h36 := eql_of h36
          refine va_q 13 rfl (by kernel_rfl) (by kernel_rfl) (by kernel_rfl) (q_move rfl) (dk rfl) ?_
          refine va_qg 14 rfl rfl rfl rfl (by kernel_rfl) (by kernel_rfl) (by kernel_rfl) (q_fieldAddr 0 rfl rfl rfl rfl (by decide) rfl rfl) (dk rfl) ?_
          refine va_qg 15 rfl rfl rfl rfl (by kernel_rfl) (by kernel_rfl) (by kernel_rfl) (q_load rfl rfl rfl rfl rfl rfl rfl (by decide)) (dk rfl) ?_
          refine va_qg 16 rfl rfl rfl rfl (by kernel_rfl) (by kernel_rfl) (by kernel_rfl) (q_move rfl) (dk rfl) ?_
          refine va_qg 17 rfl rfl rfl rfl (by kernel_rfl) (by kernel_rfl) (by kernel_rfl) (q_indexAddr_sh rfl rfl rfl rfl rfl rfl (by decide) (by omega) (get_map (i := k) hkl)) (dk rfl) ?_
          refine va_qg 18 rfl rfl rfl rfl (by kernel_rfl) (by kernel_rfl) (by kernel_rfl) (q_fieldAddr_sp rfl rfl rfl rfl (by decide) rfl) (dk rfl) ?_
          refine va_qg 19 rfl rfl rfl rfl (by kernel_rfl) (by kernel_rfl) (by kernel_rfl) (q_load_sp rfl rfl rfl rfl rfl (by decide)) (dk rfl) ?_
          refine va_qg 20 rfl rfl rfl rfl (by kernel_rfl) (by kernel_rfl) (by kernel_rfl) (q_fieldAddr 0 rfl rfl rfl rfl (by decide) rfl rfl) (dk rfl) ?_
          refine va_qg 21 rfl rfl rfl rfl (by kernel_rfl) (by kernel_rfl) (by kernel_rfl) (q_load rfl rfl rfl rfl rfl rfl rfl (by decide)) (dk rfl) ?_
          refine va_qg 22 rfl rfl rfl rfl (by kernel_rfl) (by kernel_rfl) (by kernel_rfl) (q_move rfl) (dk rfl) ?_
          refine va_qg 23 rfl rfl rfl rfl (by kernel_rfl) (by kernel_rfl) (by kernel_rfl) (q_indexAddr_sh rfl rfl rfl rfl rfl rfl (by decide) (by omega) (get_map (i := i) hil)) (dk rfl) ?_
          refine va_qg 24 rfl rfl rfl rfl (by kernel_rfl) (by kernel_rfl) (by kernel_rfl) (q_fieldAddr_sp rfl rfl rfl rfl (by decide) rfl) (dk rfl) ?_
          refine va_qg 25 rfl rfl rfl rfl (by kernel_rfl) (by kernel_rfl) (by kernel_rfl) (q_load_sp rfl rfl rfl rfl rfl (by decide)) (dk rfl) ?_
          refine va_twog 26 (x := fun b => vv (.bool b)) _ rfl rfl rfl rfl (by kernel_rfl) (by kernel_rfl) (by kernel_rfl) (q_cmp rfl rfl rfl rfl) (dk rfl) (fun h50 => ?_) (fun h50 => ?_)
          · replace h50 := eql_of h50
            refine va_q 27 rfl (by kernel_rfl) (by kernel_rfl) (by kernel_rfl) (q_pick_true rfl rfl) (dk rfl) ?_
            refine va_done (by kernel_rfl) ?_
            refine hK13 _ ?_
            refine vc_cond_true rfl ?_
            refine vc_seq fun K15 hK15 => ?_
            refine vc_region ?_
            refine vl_q (q_assign rfl) (dk rfl) ?_
            refine vl_nil ?_
            refine hK15 _ ?_
            refine vc_ret ?_
            refine ret_p rfl (.cons (res_tmp rfl) .nil) rfl ?_
            first
              | (rw [shelfB_f (not_good_row hil (fun g => by rw [heldB_t g] at hgr; cases hgr))]; rfl)
              | (rw [shelfB_f (fun g => hkey ((fIdx_self hil).2 (g.rows i hil hil).2))]; rfl)
              | (rw [shelfB_f (not_good_key hil hkl (by omega) (sameK_t h36 h50))]; rfl)
              | (rw [shelfB_t ⟨hg, by omega⟩]; rfl)
              | (rw [shelfB_f (fun g => absurd g.len (by omega))]; rfl)
          · replace h50 := eql_nof h50
            refine va_q 27 rfl (by kernel_rfl) (by kernel_rfl) (by kernel_rfl) (q_pick_true rfl rfl) (dk rfl) ?_
            refine va_done (by kernel_rfl) ?_
            refine hK13 _ ?_
            refine vc_cond_false rfl ?_
            refine vc_skip ?_
            refine hK12 _ ?_
            refine vc_region ?_
            refine vl_q (q_move rfl) (dk rfl) ?_
            refine vl_q (q_add rfl rfl (IntWalk.i64_in _ (by omega))) (dk rfl) ?_
            refine vl_q (q_assign rfl) (dk rfl) ?_
            refine vl_nil ?_
            refine ⟨_, _, ?_, ⟨k + 1, ⟨by omega, fun q hq hlt => by by_cases e : q = k; (subst e; exact sameK_f (by first | exact .inl ‹l[q].fr ≠ l[i].fr› | exact .inr ‹l[q].id ≠ l[i].id›)); exact hkk q hq (by omega)⟩, rfl, rfl⟩, (Weak.cut _ _ _ (Nat.le_of_ble_eq_true rfl) ⟨⟨rfl, rfl⟩, ⟨rfl, rfl⟩, ⟨rfl, rfl⟩, trivial⟩ ⟨⟨Nat.le_of_ble_eq_true rfl, rfl, belN_all rfl⟩, trivial⟩ rfl)⟩
            omega
        · replace h36 := eql_nof h36
          refine va_q 13 rfl (by kernel_rfl) (by kernel_rfl) (by kernel_rfl) (q_move rfl) (dk rfl) ?_
          refine va_goff 14 rfl rfl rfl rfl (by decide) (by kernel_rfl) (by kernel_rfl) (by kernel_rfl) (dk rfl) ?_
          refine va_goff 15 rfl rfl rfl rfl (by decide) (by kernel_rfl) (by kernel_rfl) (by kernel_rfl) (dk rfl) ?_
          refine va_goff 16 rfl rfl rfl rfl (by decide) (by kernel_rfl) (by kernel_rfl) (by kernel_rfl) (dk rfl) ?_
          refine va_goff 17 rfl rfl rfl rfl (by decide) (by kernel_rfl) (by kernel_rfl) (by kernel_rfl) (dk rfl) ?_
          refine va_goff 18 rfl rfl rfl rfl (by decide) (by kernel_rfl) (by kernel_rfl) (by kernel_rfl) (dk rfl) ?_
          refine va_goff 19 rfl rfl rfl rfl (by decide) (by kernel_rfl) (by kernel_rfl) (by kernel_rfl) (dk rfl) ?_
          refine va_goff 20 rfl rfl rfl rfl (by decide) (by kernel_rfl) (by kernel_rfl) (by kernel_rfl) (dk rfl) ?_
          refine va_goff 21 rfl rfl rfl rfl (by decide) (by kernel_rfl) (by kernel_rfl) (by kernel_rfl) (dk rfl) ?_
          refine va_goff 22 rfl rfl rfl rfl (by decide) (by kernel_rfl) (by kernel_rfl) (by kernel_rfl) (dk rfl) ?_
          refine va_goff 23 rfl rfl rfl rfl (by decide) (by kernel_rfl) (by kernel_rfl) (by kernel_rfl) (dk rfl) ?_
          refine va_goff 24 rfl rfl rfl rfl (by decide) (by kernel_rfl) (by kernel_rfl) (by kernel_rfl) (dk rfl) ?_
          refine va_goff 25 rfl rfl rfl rfl (by decide) (by kernel_rfl) (by kernel_rfl) (by kernel_rfl) (dk rfl) ?_
          refine va_goff 26 rfl rfl rfl rfl (by decide) (by kernel_rfl) (by kernel_rfl) (by kernel_rfl) (dk rfl) ?_
          refine va_q 27 rfl (by kernel_rfl) (by kernel_rfl) (by kernel_rfl) (q_pick_false rfl rfl) (dk rfl) ?_
          refine va_done (by kernel_rfl) ?_
          refine hK13 _ ?_
          refine vc_cond_false rfl ?_
          refine vc_skip ?_
          refine hK12 _ ?_
          refine vc_region ?_
          refine vl_q (q_move rfl) (dk rfl) ?_
          refine vl_q (q_add rfl rfl (IntWalk.i64_in _ (by omega))) (dk rfl) ?_
          refine vl_q (q_assign rfl) (dk rfl) ?_
          refine vl_nil ?_
          refine ⟨_, _, ?_, ⟨k + 1, ⟨by omega, fun q hq hlt => by by_cases e : q = k; (subst e; exact sameK_f (by first | exact .inl ‹l[q].fr ≠ l[i].fr› | exact .inr ‹l[q].id ≠ l[i].id›)); exact hkk q hq (by omega)⟩, rfl, rfl⟩, (Weak.cut _ _ _ (Nat.le_of_ble_eq_true rfl) ⟨⟨rfl, rfl⟩, ⟨rfl, rfl⟩, ⟨rfl, rfl⟩, trivial⟩ ⟨⟨Nat.le_of_ble_eq_true rfl, rfl, belN_all rfl⟩, trivial⟩ rfl)⟩
          omega
      · replace h21 := lss_nof h21
        refine vl_nil ?_
        refine hK11 _ ?_
        refine vc_cond_false rfl ?_
        refine vc_exit ?_
        refine hK6 _ ?_
        have hkey := fun q (hq : q < l.length) (hlt : q < i) => hkk q hq (by omega)
        refine vc_region ?_
        refine vl_q (q_move rfl) (dk rfl) ?_
        refine vl_q (q_add rfl rfl (IntWalk.i64_in _ (by omega))) (dk rfl) ?_
        refine vl_q (q_assign rfl) (dk rfl) ?_
        refine vl_nil ?_
        refine ⟨_, _, ?_, ⟨i + 1, ⟨by omega, goodTo_succ hg hil hgr hkey⟩, rfl, rfl⟩, (Weak.cut _ _ _ (Nat.le_of_ble_eq_true rfl) ⟨⟨rfl, rfl⟩, ⟨rfl, rfl⟩, trivial⟩ ⟨⟨Nat.le_of_ble_eq_true rfl, rfl, belN_all rfl⟩, trivial⟩ rfl)⟩
        omega
    · have hgr : heldB l[i] = false := h17
      refine vl_q (q_not rfl) (dk rfl) ?_
      refine vl_nil ?_
      refine hK8 _ ?_
      refine vc_cond_true rfl ?_
      refine vc_seq fun K16 hK16 => ?_
      refine vc_region ?_
      refine vl_q (q_assign rfl) (dk rfl) ?_
      refine vl_nil ?_
      refine hK16 _ ?_
      refine vc_ret ?_
      refine ret_p rfl (.cons (res_tmp rfl) .nil) rfl ?_
      first
        | (rw [shelfB_f (not_good_row hil (fun g => by rw [heldB_t g] at hgr; cases hgr))]; rfl)
        | (rw [shelfB_f (fun g => hkey ((fIdx_self hil).2 (g.rows i hil hil).2))]; rfl)
        | (rw [shelfB_f (not_good_key hil hkl (by omega) (sameK_t h36 h50))]; rfl)
        | (rw [shelfB_t ⟨hg, by omega⟩]; rfl)
        | (rw [shelfB_f (fun g => absurd g.len (by omega))]; rfl)
  · replace h9 := lss_nof h9
    refine vl_nil ?_
    refine hK5 _ ?_
    refine vc_cond_false rfl ?_
    refine vc_exit ?_
    refine hK2 _ ?_
    refine vc_seq fun K17 hK17 => ?_
    obtain rfl : i = l.length := by omega
    refine vc_region ?_
    refine vl_q (q_fieldAddr 0 rfl rfl rfl rfl (by decide) rfl rfl) (dk rfl) ?_
    refine vl_load rfl rfl rfl rfl rfl rfl rfl (by decide) (dk rfl) ?_
    refine vl_q (q_len_sh rfl rfl rfl) (dk rfl) ?_
    simp only [List.length_map]
    refine vl_two (x := fun b => vv (.bool b)) _ (q_cmp rfl rfl rfl rfl) (dk rfl) (fun h55 => ?_) (fun h55 => ?_)
    · replace h55 := leq_of h55
      refine vl_q (q_assign rfl) (dk rfl) ?_
      refine vl_nil ?_
      refine hK17 _ ?_
      refine vc_ret ?_
      refine ret_p rfl (.cons (res_tmp rfl) .nil) rfl ?_
      first
        | (rw [shelfB_f (not_good_row hil (fun g => by rw [heldB_t g] at hgr; cases hgr))]; rfl)
        | (rw [shelfB_f (fun g => hkey ((fIdx_self hil).2 (g.rows i hil hil).2))]; rfl)
        | (rw [shelfB_f (not_good_key hil hkl (by omega) (sameK_t h36 h50))]; rfl)
        | (rw [shelfB_t ⟨hg, by omega⟩]; rfl)
        | (rw [shelfB_f (fun g => absurd g.len (by omega))]; rfl)
    · replace h55 := leq_nof h55
      refine vl_q (q_assign rfl) (dk rfl) ?_
      refine vl_nil ?_
      refine hK17 _ ?_
      refine vc_ret ?_
      refine ret_p rfl (.cons (res_tmp rfl) .nil) rfl ?_
      first
        | (rw [shelfB_f (not_good_row hil (fun g => by rw [heldB_t g] at hgr; cases hgr))]; rfl)
        | (rw [shelfB_f (fun g => hkey ((fIdx_self hil).2 (g.rows i hil hil).2))]; rfl)
        | (rw [shelfB_f (not_good_key hil hkl (by omega) (sameK_t h36 h50))]; rfl)
        | (rw [shelfB_t ⟨hg, by omega⟩]; rfl)
        | (rw [shelfB_f (fun g => absurd g.len (by omega))]; rfl)
end Go.Vm.S
namespace Go.Vm.S
open Go Go.Vm
set_option maxRecDepth 100000
set_option linter.unusedVariables false
set_option maxHeartbeats 4000000
theorem at41 : FnAt Pg 41 Go.Proofs.Try.f41 := ⟨by kernel_rfl, rfl, by decide⟩
theorem c_spec_l20Copy (l : List Held) (hb : szHelds l ≤ 4194304) :
    Ctr Pg ty 41 [.agg ((shelfC l).map X.c)] [] (Gives (.v (.agg [.hdr 16 0 l.length])) [⟨6, clo (l.map heldO)⟩] []) := by
  have hl : l.length ≤ 4194304 := by unfold szHelds at hb; omega
  refine ctr at41 rfl (nsK_gives rfl ⟨nsN_map heldO_noSh, trivial⟩ trivial) (Nat.le_of_ble_eq_true rfl) fun w0 S0 L0 Z => ?_
  refine vc_seq fun K1 hK1 => ?_
  refine vc_region ?_
  refine vl_box rfl (dk rfl) ?_
  refine vl_alloc rfl (dk rfl) ?_
  refine vl_nil ?_
  refine hK1 _ ?_
  refine vc_seq fun K2 hK2 => ?_
  refine vc_region ?_
  refine vl_q (q_build rfl rfl rfl rfl rfl) (dk rfl) ?_
  refine vl_alloc rfl (dk rfl) ?_
  refine vl_store rfl rfl rfl rfl rfl rfl (Nat.le_of_ble_eq_true rfl) trivial ?_
  refine vl_nil ?_
  refine hK2 _ ?_
  refine vc_seq fun K3 hK3 => ?_
  refine vc_seq fun K4 hK4 => ?_
  refine vc_region ?_
  refine vl_q (q_assign rfl) (dk rfl) ?_
  refine vl_nil ?_
  refine hK4 _ ?_
  refine vc_block ?_
  refine vc_weak (Weak.tell1 (m := 18) (i := 0) (j := 0) rfl rfl rfl (Imp.nil 6) (one_wid rfl)) ?_
  refine vc_loop (fun mz st => ∃ i : Nat, (i ≤ l.length) ∧ mz = l.length - i ∧ st = mkSt [(1, .v (.one (.ptr 16 0 0))), (2, .v (.one (.ptr 17 0 0))), (3, .v (.one (.ptr 18 0 0))), (4, .v (iv i))] [(16, ⟨1, [[.c (.sh 6 (l.map heldC))]]⟩), (17, ⟨1, [[.c (.val (.slice none 0 0))]]⟩), (18, ⟨1, [[.c (.own 6 ((l.take i).map heldO))]]⟩)] 19) ⟨_, _, ⟨0, by omega, rfl, rfl⟩, (Weak.cut _ _ _ (Nat.le_of_ble_eq_true rfl) ⟨⟨rfl, rfl⟩, ⟨rfl, rfl⟩, ⟨rfl, rfl⟩, ⟨rfl, rfl⟩, trivial⟩ ⟨⟨Nat.le_of_ble_eq_true rfl, rfl, belN_all rfl⟩, ⟨Nat.le_of_ble_eq_true rfl, rfl, belN_all rfl⟩, ⟨Nat.le_of_ble_eq_true rfl, rfl, belN_all rfl⟩, trivial⟩ rfl)⟩ (fun mz st hI => ?_)
  obtain ⟨i, hi, hmz, rfl⟩ := hI
  refine vc_seq fun K5 hK5 => ?_
  refine vc_seq fun K6 hK6 => ?_
  refine vc_region ?_
  refine vl_q (q_move rfl) (dk rfl) ?_
  refine vl_q (q_fieldAddr 0 rfl rfl rfl rfl (by decide) rfl rfl) (dk rfl) ?_
  refine vl_load rfl rfl rfl rfl rfl rfl rfl (by decide) (dk rfl) ?_
  refine vl_q (q_len_sh rfl rfl rfl) (dk rfl) ?_
  refine vl_two (x := fun b => vv (.bool b)) _ (q_cmp rfl rfl rfl rfl) (dk rfl) (fun h11 => ?_) (fun h11 => ?_)
  · replace h11 := lss_of h11
    simp only [List.length_map] at h11
    refine vl_nil ?_
    refine hK6 _ ?_
    refine vc_cond_true rfl ?_
    refine vc_skip ?_
    refine hK5 _ ?_
    refine vc_seq fun K7 hK7 => ?_
    refine vc_block ?_
    refine vc_seq fun K8 hK8 => ?_
    have hil : i < l.length := by omega
    have hbi : szHeld l[i] ≤ 4194304 := by
      have h1 := sumTo_succ szHeld l hil
      have h2 := sumTo_le szHeld l (i + 1)
      unfold szHelds at hb; omega
    have hp : l[i].parts.length ≤ 4194304 := by unfold szHeld szStrs at hbi; omega
    have hh : l[i].hav.length ≤ 4194304 := by unfold szHeld szStrs at hbi; omega
    refine vc_region ?_
    refine vl_q (q_fieldAddr 0 rfl rfl rfl rfl (by decide) rfl rfl) (dk rfl) ?_
    refine vl_load rfl rfl rfl rfl rfl rfl rfl (by decide) (dk rfl) ?_
    refine vl_q (q_move rfl) (dk rfl) ?_
    refine vl_q (q_indexAddr_sh rfl rfl rfl rfl rfl rfl (by decide) (by omega) (get_map (i := i) hil)) (dk rfl) ?_
    refine vl_load_sp rfl rfl rfl rfl (by decide) (dk rfl) ?_
    refine vl_alloc rfl (dk rfl) ?_
    refine vl_store rfl rfl rfl rfl rfl rfl (Nat.le_of_ble_eq_true rfl) trivial ?_
    refine vl_nil ?_
    refine hK8 _ ?_
    refine vc_seq fun K9 hK9 => ?_
    refine vc_region ?_
    refine vl_bslice rfl rfl rfl rfl rfl rfl trivial (by decide) (by decide) (dk rfl) ?_
    refine vl_q (q_fieldAddr 3 rfl rfl rfl rfl (by decide) rfl rfl) (dk rfl) ?_
    refine vl_load rfl rfl rfl rfl rfl rfl rfl (by decide) (dk rfl) ?_
    refine vl_append rfl rfl rfl rfl (fun _ h => TypeDesc.noConfusion h) rfl rfl rfl (Nat.le_refl _) (src_sh rfl rfl (map_wid fun _ => rfl)) (by simp only [List.length_map]; show _ * 16 ≤ _; omega) (by simp only [List.length_map]; omega) (dk rfl) ?_
    simp only [List.drop_nil, List.take_nil, List.nil_append, List.length_map, Nat.zero_add]
    refine vl_q (q_fieldAddr 3 rfl rfl rfl rfl (by decide) rfl rfl) (dk rfl) ?_
    refine vl_store rfl rfl rfl rfl rfl rfl (Nat.le_of_ble_eq_true rfl) trivial ?_
    refine vl_nil ?_
    refine hK9 _ ?_
    refine vc_seq fun K10 hK10 => ?_
    refine vc_region ?_
    refine vl_bslice rfl rfl rfl rfl rfl rfl trivial (by decide) (by decide) (dk rfl) ?_
    refine vl_q (q_fieldAddr 4 rfl rfl rfl rfl (by decide) rfl rfl) (dk rfl) ?_
    refine vl_load rfl rfl rfl rfl rfl rfl rfl (by decide) (dk rfl) ?_
    refine vl_append rfl rfl rfl rfl (fun _ h => TypeDesc.noConfusion h) rfl rfl rfl (Nat.le_refl _) (src_sh rfl rfl (map_wid fun _ => rfl)) (by simp only [List.length_map]; show _ * 1 ≤ _; omega) (by simp only [List.length_map]; omega) (dk rfl) ?_
    simp only [List.drop_nil, List.take_nil, List.nil_append, List.length_map, Nat.zero_add]
    refine vl_q (q_fieldAddr 4 rfl rfl rfl rfl (by decide) rfl rfl) (dk rfl) ?_
    refine vl_store rfl rfl rfl rfl rfl rfl (Nat.le_of_ble_eq_true rfl) trivial ?_
    refine vl_nil ?_
    refine hK10 _ ?_
    refine vc_region ?_
    refine vl_q (q_fieldAddr 0 rfl rfl rfl rfl (by decide) rfl rfl) (dk rfl) ?_
    refine vl_open (nm := 18) (i := 0) (j := 0) rfl rfl rfl rfl rfl rfl ?_
    simp only [List.length_map, List.length_take, Nat.min_eq_left hi]
    refine vl_load rfl rfl rfl rfl rfl rfl rfl (by decide) (dk rfl) ?_
    refine vl_load rfl rfl rfl rfl rfl rfl rfl (by decide) (dk rfl) ?_
    refine vl_bslice rfl rfl rfl rfl rfl rfl ⟨rfl, trivial⟩ (by decide) (by decide) (dk rfl) ?_
    refine vl_append rfl rfl rfl rfl (fun _ h => TypeDesc.noConfusion h) rfl rfl rfl (by rw [Nat.zero_add]; exact Nat.le_of_eq (by simp; omega)) (src_row rfl rfl rfl rfl) (by show (i + 1) * 80 ≤ _; omega) (by show i + 1 < _; omega) (dk rfl) ?_
    refine vl_q (q_fieldAddr 0 rfl rfl rfl rfl (by decide) rfl rfl) (dk rfl) ?_
    refine vl_store rfl rfl rfl rfl rfl rfl (Nat.le_of_ble_eq_true rfl) trivial ?_
    refine vl_nil ?_
    refine hK7 _ ?_
    refine vc_weak (Weak.node (m := 26) rfl (congrArg (Vm.Node.mk 6) (app_take (take_map_len (f := heldO) hi)))) ?_
    refine vc_weak (Weak.close1 (nm := 26) (i := i) (j := 3) (m := 21) (es := l[i].parts.map strC) rfl (app_get (take_map_len hi)) rfl rfl (by simp) (by decide)) ?_
    refine vc_weak (Weak.close1 (nm := 26) (i := i) (j := 4) (m := 23) (es := l[i].hav.map boolC) rfl (set_get (app_lt (take_map_len hi))) rfl rfl (by simp) (by decide)) ?_
    refine vc_weak (Weak.node (m := 26) (nd' := ⟨6, clo ((l.take (i + 1)).map heldO)⟩) rfl (congrArg (Vm.Node.mk 6) ((List.set_set _).trans ((app_set (take_map_len hi)).trans (clo_snoc.trans (congrArg clo (take_map_snoc (f := heldO) hil))))))) ?_
    refine vc_weak (Weak.close1 (nm := 18) (i := 0) (j := 0) (m := 26) (es := (l.take (i + 1)).map heldO) rfl rfl rfl rfl (by simp; omega) (by decide)) ?_
    refine vc_region ?_
    refine vl_q (q_move rfl) (dk rfl) ?_
    refine vl_q (q_add rfl rfl (IntWalk.i64_in _ (by omega))) (dk rfl) ?_
    refine vl_q (q_assign rfl) (dk rfl) ?_
    refine vl_nil ?_
    refine ⟨_, _, ?_, ⟨i + 1, by omega, rfl, rfl⟩, (Weak.cut _ _ _ (Nat.le_of_ble_eq_true rfl) ⟨⟨rfl, rfl⟩, ⟨rfl, rfl⟩, ⟨rfl, rfl⟩, ⟨rfl, rfl⟩, trivial⟩ ⟨⟨Nat.le_of_ble_eq_true rfl, rfl, belN_all rfl⟩, ⟨Nat.le_of_ble_eq_true rfl, rfl, belN_all rfl⟩, ⟨Nat.le_of_ble_eq_true rfl, rfl, belN_all rfl⟩, trivial⟩ rfl)⟩
    omega
  · replace h11 := lss_nof h11
    simp only [List.length_map] at h11
    refine vl_nil ?_
    refine hK6 _ ?_
    refine vc_cond_false rfl ?_
    refine vc_exit ?_
    refine hK3 _ ?_
    refine vc_seq fun K11 hK11 => ?_
    obtain rfl : i = l.length := by omega
    refine vc_weak (Weak.node (m := 18) (nd' := ⟨1, [[.c (.own 6 (l.map heldO))]]⟩) rfl (by rw [List.take_length])) ?_
    refine vc_region ?_
    refine vl_open (nm := 18) (i := 0) (j := 0) rfl rfl rfl rfl rfl rfl ?_
    simp only [List.length_map]
    refine vl_load rfl rfl rfl rfl rfl rfl rfl (by decide) (dk rfl) ?_
    refine vl_store rfl rfl rfl rfl rfl rfl (Nat.le_of_ble_eq_true rfl) trivial ?_
    refine vl_nil ?_
    refine hK11 _ ?_
    refine vc_ret ?_
    refine ret_g [19] rfl (.cons (res_cell rfl rfl rfl rfl rfl rfl rfl (by decide)) .nil) rfl rfl (nodupB_ok rfl) ⟨by decide, trivial⟩ ⟨⟨_, rfl, NR.clo _ _ _ _⟩, trivial⟩ trivial (Nat.zero_le _)
end Go.Vm.S
