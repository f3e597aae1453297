/- The borrow machine, part N: results; telling less of a state; closing an array into a cell. The borrow machine, part P: regions whose order is drawn. The borrow machine, part Q: numbers, truths, texts. The borrow machine, part T: a table of types, out of the loaded program. The borrow machine, part U: short forms. The borrow machine, part V: closing an array into the cell that holds its header; forgetting its tail. The borrow machine, part W: built structs and slices. The borrow machine, part X: contracts and calls in short forms; closures. The borrow machine, part Y: what the printed walks use. The borrow machine, part Z: plain words that the contracts use. The borrow machine, part ZA: arrays that are filled one by one; results that come with arrays. The borrow machine, part ZB: bytes to texts. The borrow machine, part ZC: arrays that are written over one by one. The borrow machine, part ZD: a cell is told in other words. The borrow machine, part ZE: arrays that grow row by row. The borrow machine, part ZF: clearing what is not told. The borrow machine, part ZG: a row of which nothing is told any more. The borrow machine, part ZH: rows that are set. The borrow machine, part ZI: joins, arrays that are frozen, arrays that are told from behind. The borrow machine, part ZJ: results that are frozen; rows that move. The data of this part, as cells. The greater of two. What is drawn from a code. The table of types of this translation (printed by gen_ty.py). The borrow machine, part R: from a row's data to told values, and back to the row. The borrow machine, part RA: the row of a law. The borrow machine, part RB: shapes, turned back into data. What is handed to a law of this part, as data. A code that is handed to a law, as data. Plain words for parts and shelves. -/
import Derived.Test.YthjohfhnpeiheaaShvA
import Derived.OrdersHeld
import Derived.Laws.StructEq
import Derived.IntWalk
import Derived.KernelRfl
import Derived.Laws.Tables
import Derived.Laws.BytesString
import Derived.Test.YthjohfhnpeiheaaProg
import Derived.ProofKit
set_option linter.all false
namespace Go.Vm
open Go

section
variable {P : Program} {ty : Ty} {c : Ctx} {nt : Nat} {st : St} {Q : Exit → St → Prop}
variable {a : Act} {w : World} {L : Lay} {F : Nat → FP}

/-! ### results -/
def resSem (tmps : Array Value) : ResultVar → Sem Value
  | .tmp t => pure (tmps.getD t undef)
  | .cell a t => do loadVar t (← asAddr (tmps.getD a undef))
def ResOk (P : Program) (ty : Ty) (c : Ctx) (nt : Nat) (st : St) (rv : ResultVar) (v : V) : Prop :=
  ∀ a w L F, GX P ty c nt st a w L F → ∃ u, (resSem a.tmps rv).run P w = .ok u w ∧ VR w L L.Z st.k v u
theorem res_tmp {t : Nat} {v : V} (h : st.tm t = some (.v v)) : ResOk P ty c nt st (.tmp t) v := fun a w L F g => ⟨_, rfl, g.tm t _ h⟩
theorem res_cell {t : Nat} {T : TypeId} {nm i off : Nat} {nd : Node} {e : List X} {d : TyD} {xs : List X} (h : st.tm t = some (.v (.one (.ptr nm i off)))) (ht : ty T = some d)
    (hn : st.nd nm = some nd) (hi : nd.es[i]? = some e) (hxs : (e.drop off).take d.size = xs)
    (hlen : xs.length = d.size) (hp : xs.all plainX = true) (h1 : d.agg = false → d.size = 1) : ResOk P ty c nt st (.cell t T) (vOf d xs) := fun a w L F g => by
  obtain ⟨_, _, hv⟩ := g.tm t _ h
  obtain ⟨u, hrun, hu⟩ := g.loadV ht hn hi hxs hlen hp h1
  refine ⟨u, ?_, hu⟩
  simp only [resSem, hv, asAddr, Sem.run_bind, Sem.run_pure, Result.andThen_ok, hrun]
inductive ResAll (P : Program) (ty : Ty) (c : Ctx) (nt : Nat) (st : St) : List ResultVar → List V → Prop
  | nil : ResAll P ty c nt st [] []
  | cons {rv : ResultVar} {v : V} {rvs : List ResultVar} {vs : List V} (h : ResOk P ty c nt st rv v) (t : ResAll P ty c nt st rvs vs) : ResAll P ty c nt st (rv :: rvs) (v :: vs)

theorem ResAll.run {rvs : List ResultVar} {vs : List V} (h : ResAll P ty c nt st rvs vs) (g : GX P ty c nt st a w L F) :
    ∃ us : List Value, (rvs.mapM (resSem a.tmps)).run P w = .ok us w ∧ us.length = vs.length ∧ ∀ (j : Nat) v u, vs[j]? = some v → us[j]? = some u → VR w L L.Z st.k v u := by
  induction h with
  | nil => exact ⟨[], by simp, rfl, by simp⟩
  | cons h t ih =>
    obtain ⟨us, h1, h2, h3⟩ := ih
    obtain ⟨u, h4, h5⟩ := h a w L F g
    refine ⟨u :: us, by simp [List.mapM_cons, h4, h1], by simp [h2], fun j v u' hv hu => ?_⟩
    cases j with
    | zero => simp at hv hu; subst hv; subst hu; exact h5
    | succ j => simp at hv hu; exact h3 j v u' hv hu
def valOf : List Value → Value
  | [u] => u
  | us => .tuple us.toArray
theorem run_results {fn : Func} {rvs : List ResultVar} (hr : fn.results = rvs.toArray) {us : List Value} {tmps : Array Value} (h : (rvs.mapM (resSem tmps)).run P w = .ok us w) :
    (results fn tmps).run P w = .ok (valOf us) w := by
  have hm : (fn.results.mapM (resSem tmps)).run P w = .ok us.toArray w := by
    rw [hr, List.mapM_toArray, Sem.run_map, h]; rfl
  have he : results fn tmps = (do let vs ← fn.results.mapM (resSem tmps); pure (if h : vs.size = 1 then vs[0] else .tuple vs)) := by
    unfold results
    congr 1
  rw [he, Sem.run_bind, hm]
  simp only [Result.andThen_ok, Sem.run_pure]
  congr 1
  match us with
  | [] => rfl
  | [u] => rfl
  | u :: v :: r => rw [dif_neg (by simp)]; rfl

def sgm (names : List Nat) : Nat → Nat := fun n => bif Nat.blt n 16 then n else names.getD (n - 16) 0
def tOf : List V → T
  | [v] => .v v
  | vs => .tup vs

theorem ret_rule {fn : Func} {K : T → List Node → (Nat → Option Node) → Prop} {rvs : List ResultVar} {vs : List V} (names : List Nat) (r : T) (ns : List Node) (N' : Nat → Option Node)
    (hrv : fn.results = rvs.toArray) (hres : ResAll P ty c nt st rvs vs) (hr : tOf vs = renT (sgm names) r) (hb : belT (16 + ns.length) r = true)
    (hl : names.length = ns.length) (hnd : names.Nodup) (h16 : ∀ n, n ∈ names → 16 ≤ n)
    (hns : ∀ (i : Nat) n nd', names[i]? = some n → ns[i]? = some nd' → ∃ nd, st.nd n = some nd ∧ NR (sgm names) (16 + ns.length) nd nd')
    (hN : ∀ n nd', N' n = some nd' → n < 16 ∧ ∃ nd, st.nd n = some nd ∧ NR (sgm names) (16 + ns.length) nd nd') (hK : K r ns N') : Ret P ty c nt fn K st := by
  intro a w L F g
  obtain ⟨us, h1, h2, h3⟩ := hres.run g
  have hrun := run_results (P := P) hrv h1
  have hT : TR w L L.Z st.k (tOf vs) (valOf us) := by
    match vs, us, h2, h3 with
    | [], [], _, _ => exact ⟨[], rfl, rfl, by simp⟩
    | [v], [u], _, h3 => exact h3 0 v u rfl rfl
    | v :: v2 :: vr, u :: u2 :: ur, h2, h3 => exact ⟨u :: u2 :: ur, rfl, h2, h3⟩
  rw [hr] at hT
  let L' : Lay := ⟨fun n => L (sgm names n), L.Z⟩
  have hs16 : ∀ n, n < 16 → sgm names n = n := fun n hn => by simp only [sgm]; rw [blt_true hn]; rfl
  have hsge : ∀ n, ¬ n < 16 → ∀ m, names[n - 16]? = some m → sgm names n = m := fun n hn m hm => by
    simp only [sgm]; rw [blt_false hn]; simp [List.getD_eq_getElem?_getD, hm]
  let F' : Nat → FP := fun n => match outNd N' ns n with | some _ => F (sgm names n) | none => bot
  refine ⟨_, r, ns, N', L', F', hrun, hK, fun n hn => by simp only [L', hs16 n hn], ⟨fun n nd (hn : outNd N' ns n = some nd) => ?_, fun n (hn : outNd N' ns n = none) => ?_, fun x y hxy => ?_, fun x => ?_, fun x b o hb => ?_⟩, hT.ren hb (fun _ _ => rfl), fun n b o hb => ?_, ZLe.rfl, fun b o hb => .inl hb⟩
  · simp only [F', hn]
    simp only [outNd] at hn
    by_cases h : n < 16
    · rw [if_pos h] at hn
      obtain ⟨_, nd0, h4, h5⟩ := hN n nd hn
      obtain ⟨h6, h7⟩ := g.sa.node n nd0 h4
      exact ⟨show n < 16 + ns.length by omega, (by rw [hs16 n h]; exact h7.ren h5 (fun _ _ => rfl) (by simp only [L', hs16 n h]))⟩
    · rw [if_neg h] at hn
      have hlt := lt_of_get hn
      have hm : names[n - 16]? = some (names[n - 16]'(by omega)) := List.getElem?_eq_getElem (by omega)
      obtain ⟨nd0, h4, h5⟩ := hns _ _ nd hm hn
      obtain ⟨h6, h7⟩ := g.sa.node _ nd0 h4
      exact ⟨show n < 16 + ns.length by omega, (by rw [hsge n h _ hm]; exact h7.ren h5 (fun _ _ => rfl) (by simp only [L', hsge n h _ hm]))⟩
  · simp only [F', hn]; exact Emp.bot
  · simp only [F']
    cases hx : outNd N' ns x with
    | none => exact Emp.bot.disj _
    | some ndx =>
      cases hy : outNd N' ns y with
      | none => exact Emp.bot.disj' _
      | some ndy =>
        refine g.sa.dis _ _ fun e => hxy ?_
        simp only [outNd] at hx hy
        by_cases h : x < 16 <;> by_cases h' : y < 16
        · rwa [hs16 x h, hs16 y h'] at e
        · rw [if_neg h'] at hy
          have hlt := lt_of_get hy
          have hm : names[y - 16]? = some (names[y - 16]'(by omega)) := List.getElem?_eq_getElem (by omega)
          rw [hs16 x h, hsge y h' _ hm] at e
          have := h16 _ (List.mem_of_getElem? hm); omega
        · rw [if_neg h] at hx
          have hlt := lt_of_get hx
          have hm : names[x - 16]? = some (names[x - 16]'(by omega)) := List.getElem?_eq_getElem (by omega)
          rw [hs16 y h', hsge x h _ hm] at e
          have := h16 _ (List.mem_of_getElem? hm); omega
        · rw [if_neg h] at hx
          rw [if_neg h'] at hy
          have hlt := lt_of_get hx
          have hlt' := lt_of_get hy
          have hm : names[x - 16]? = some (names[x - 16]'(by omega)) := List.getElem?_eq_getElem (by omega)
          have hm' : names[y - 16]? = some (names[y - 16]'(by omega)) := List.getElem?_eq_getElem (by omega)
          rw [hsge x h _ hm, hsge y h' _ hm'] at e
          have := (List.getElem?_inj (by omega) hnd).1 (hm.trans (by rw [e]; exact hm'.symm))
          omega
  · simp only [F']
    cases hx : outNd N' ns x with
    | none => exact Emp.bot.disj _
    | some ndx => exact g.sa.disZ _
  · simp only [F'] at hb
    cases hx : outNd N' ns x with
    | none => rw [hx] at hb; exact hb.elim
    | some ndx => rw [hx] at hb; exact g.sa.lt _ b o hb
  · simp only [F'] at hb
    cases hx : outNd N' ns n with
    | none => rw [hx] at hb; exact hb.elim
    | some ndx => rw [hx] at hb; exact ⟨_, hb⟩
theorem Ret.weak {fn : Func} {K : T → List Node → (Nat → Option Node) → Prop} {st' : St} (hw : Weak P ty c nt st st') (hF : ∀ a w L F, GX P ty c nt st a w L F → ∃ L' F', GX P ty c nt st' a w L' F' ∧ LAg 16 L L' ∧ (∀ n b o, F' n b o → ∃ m, F m b o) ∧ ZLe L.Z L'.Z ∧ ∀ b o, L'.Z.fz b o → L.Z.fz b o ∨ ∃ m, F m b o)
    (h : Ret P ty c nt fn K st') : Ret P ty c nt fn K st := by
  intro a w L F g
  obtain ⟨L1, F1, g1, h1, h2, z1, z2⟩ := hF a w L F g
  obtain ⟨v, r, ns, N', L', F', h3, h4, h5, h6, h7, h8, z3, z4⟩ := h a w L1 F1 g1
  exact ⟨v, r, ns, N', L', F', h3, h4, h1.trans h5, h6, h7, fun n b o hb => by obtain ⟨m, hm⟩ := h8 n b o hb; exact h2 m b o hm, z1.trans z3, fun b o hb => by
    rcases z4 b o hb with h | ⟨m, hm⟩
    · exact z2 b o h
    · exact .inr (h2 m b o hm)⟩

/-! ### telling less -/
def lkp {α : Type} : List (Nat × α) → Nat → Option α
  | [], _ => none
  | (a, x) :: r, n => bif Nat.beq n a then some x else lkp r n
theorem lkp_mem {α : Type} : ∀ {l : List (Nat × α)} {n : Nat} {x : α}, lkp l n = some x → (n, x) ∈ l
  | [], _, _, h => by simp [lkp] at h
  | (a, y) :: r, n, x, h => by
    simp only [lkp] at h
    cases hb : Nat.beq n a with
    | true => rw [hb] at h; simp at h; subst h; rw [Nat.eq_of_beq_eq_true hb]; exact List.mem_cons_self
    | false => rw [hb] at h; simp only [cond_false] at h; exact List.mem_cons_of_mem _ (lkp_mem h)
def mkSt (tl : List (Nat × T)) (nl : List (Nat × Node)) (k : Nat) : St := ⟨lkp tl, lkp nl, k⟩
def All {α : Type} (p : α → Prop) : List α → Prop
  | [] => True
  | a :: l => p a ∧ All p l
theorem All.mem {α : Type} {p : α → Prop} : ∀ {l : List α}, All p l → ∀ x, x ∈ l → p x
  | [], _, x, hx => by simp at hx
  | a :: l, h, x, hx => by
    rcases List.mem_cons.1 hx with e | e
    · rw [e]; exact h.1
    · exact All.mem h.2 x e

theorem GX.to (g : GX P ty c nt st a w L F) (σ : Nat → Nat) (tl : List (Nat × T)) (nl : List (Nat × Node)) (k : Nat) (hk : c.kf ≤ k) (hσ : ∀ n, n < c.kf → σ n = n)
    (ht : All (fun p => st.tm p.1 = some (renT σ p.2) ∧ belT k p.2 = true) tl)
    (hn : All (fun p => p.1 < k ∧ ∃ nd, st.nd (σ p.1) = some nd ∧ NR σ k nd p.2) nl) (hi : (nl.map fun p => σ p.1).Nodup) :
    ∃ L' F', GX P ty c nt (mkSt tl nl k) a w L' F' ∧ LAg 16 L L' ∧ ∀ n b o, F' n b o → ∃ m, F m b o := by
  have hnd : ∀ n nd', lkp nl n = some nd' → n < k ∧ ∃ nd, st.nd (σ n) = some nd ∧ NR σ k nd nd' := fun n nd' h => hn.mem _ (lkp_mem h)
  have hinj : ∀ x y ndx ndy, lkp nl x = some ndx → lkp nl y = some ndy → σ x = σ y → x = y := by
    clear ht hn hnd
    induction nl with
    | nil => intro x y ndx ndy h; simp [lkp] at h
    | cons p r ih =>
      obtain ⟨b, q⟩ := p
      simp only [List.map_cons, List.nodup_cons] at hi
      intro x y ndx ndy hx hy e
      simp only [lkp] at hx hy
      have hout : ∀ z nz, lkp r z = some nz → σ b ≠ σ z := fun z nz hz he => hi.1 (List.mem_map.2 ⟨(z, nz), lkp_mem hz, he.symm⟩)
      by_cases hxb : x = b <;> by_cases hyb : y = b
      · rw [hxb, hyb]
      · rw [beq_no hyb, cond_false] at hy
        exact absurd (by rw [← hxb]; exact e) (hout y ndy hy)
      · rw [beq_no hxb, cond_false] at hx
        exact absurd (by rw [← hyb]; exact e.symm) (hout x ndx hx)
      · rw [beq_no hxb, cond_false] at hx
        rw [beq_no hyb, cond_false] at hy
        exact ih hi.2 x y ndx ndy hx hy e
  let F' : Nat → FP := fun n => match lkp nl n with | some _ => F (σ n) | none => bot
  have hF' : ∀ n b o, F' n b o → F (σ n) b o := by
    intro n b o hb
    simp only [F'] at hb
    cases hx : lkp nl n with
    | none => rw [hx] at hb; exact hb.elim
    | some _ => rw [hx] at hb; exact hb
  refine ⟨⟨fun n => L (σ n), L.Z⟩, F', ⟨g.tyok, g.defers, g.size, fun n h16 => (congrArg L.ns (hσ n h16)).trans (g.lay n h16), ⟨fun n nd h => ?_, fun n h => ?_, fun x y hxy => ?_, fun x b o hb => g.sa.disZ _ b o (hF' x b o hb), fun x b o hb => g.sa.lt _ b o (hF' x b o hb)⟩, g.zle, g.znew, g.zfnew, g.zlt, g.znf,
    fun t x hx => ?_, fun n b o hb => g.scope _ b o (hF' n b o hb), g.fr, hk, g.ok⟩, fun n h16 => congrArg L.ns (hσ n (Nat.lt_of_lt_of_le h16 g.ok.k16)), fun n b o hb => ⟨_, hF' n b o hb⟩⟩
  · obtain ⟨h1, nd0, h2, h3⟩ := hnd n nd h
    have hl : lkp nl n = some nd := h
    simp only [F', hl]
    exact ⟨h1, (g.sa.node _ nd0 h2).2.ren h3 (fun _ _ => rfl) rfl⟩
  · have hl : lkp nl n = none := h
    simp only [F', hl]; exact Emp.bot
  · intro b o h1 h2
    cases hx : lkp nl x with
    | none => simp only [F', hx] at h1; exact h1.elim
    | some ndx =>
      cases hy : lkp nl y with
      | none => simp only [F', hy] at h2; exact h2.elim
      | some ndy => exact g.sa.dis _ _ (fun e => hxy (hinj x y ndx ndy hx hy e)) b o (hF' x b o h1) (hF' y b o h2)
  · obtain ⟨h1, h2⟩ := ht.mem _ (lkp_mem hx)
    exact (g.tm t _ h1).ren h2 (fun _ _ => rfl)
theorem Weak.to (σ : Nat → Nat) (tl : List (Nat × T)) (nl : List (Nat × Node)) (k : Nat) (hk : c.kf ≤ k) (hσ : ∀ n, n < c.kf → σ n = n)
    (ht : All (fun p => st.tm p.1 = some (renT σ p.2) ∧ belT k p.2 = true) tl)
    (hn : All (fun p => p.1 < k ∧ ∃ nd, st.nd (σ p.1) = some nd ∧ NR σ k nd p.2) nl) (hi : (nl.map fun p => σ p.1).Nodup) : Weak P ty c nt st (mkSt tl nl k) := by
  rintro a w ⟨L, F, g⟩
  obtain ⟨L', F', g', _⟩ := g.to σ tl nl k hk hσ ht hn hi
  exact ⟨L', F', g'⟩

theorem Weak.open1 {nm i j sz : Nat} {nd : Node} {e : List X} {es : List (List C)} (hn : st.nd nm = some nd) (hi : nd.es[i]? = some e)
    (hj : e[j]? = some (.c (.own sz es))) : Weak P ty c nt st ((st.setN nm (some ⟨nd.sz, nd.es.set i (e.set j (.hdr st.k 0 es.length))⟩)).add ⟨sz, es.map fun r => r.map X.c⟩) := by
  rintro a w ⟨L, F, g⟩
  obtain ⟨L', F', g'⟩ := g.open1 hn hi hj
  exact ⟨L', F', g'⟩
end
end Go.Vm
namespace Go.Vm
open Go

section
variable {P : Program} {ty : Ty} {c : Ctx} {nt : Nat} {st : St} {Q : Exit → St → Prop}
variable {a : Act} {w : World} {L : Lay} {F : Nat → FP}
variable {ops : Array Oper} {dst : Option Nat} {tp : TypeId} {pos : String} {after : Array Edge} {fuel : Nat} {listed : Array Bool}

theorem Ag.symm {f : FP} {w w' : World} (h : Ag f w w') : Ag f w' w := fun b o x => ⟨(h b o x).1.symm, (h b o x).2.symm⟩
theorem Ag.trans {f : FP} {w w' w'' : World} (h : Ag f w w') (h' : Ag f w' w'') : Ag f w w'' := fun b o x => ⟨(h' b o x).1.trans (h b o x).1, (h' b o x).2.trans (h b o x).2⟩

theorem Oper.wp_mono2 {o : Oper} {K K' : Act → World → Prop} {R R' : Exit → Act → World → Prop} (hK : ∀ a w, K a w → K' a w) (hp : ∀ ch a w, R (.panic ch) a w → R' (.panic ch) a w)
    (ho : LetsOut R → LetsOut R') (h : o.wp P a w K R) : o.wp P a w K' R' := by
  unfold Oper.wp at *
  generalize (execOp a.eval o).run P w = r at *
  cases r with
  | ok n w' =>
    cases n <;> simp only [Oper.upon] at h ⊢ <;>
      first
        | exact hK _ _ h
        | exact Calls.mono h (fun e w'' he => by cases e <;> first | exact hK _ _ he | exact hp _ _ _ he | exact ho he)
        | exact Rows.mono h (fun _ _ he => hK _ _ he)
  | halt x w' => cases x <;> simp only [Oper.upon] at h ⊢ <;> first | exact hp _ _ _ h | exact h

/-- whatever order is drawn from here on -/
def va (P : Program) (ty : Ty) (c : Ctx) (nt : Nat) (ops : Array Oper) (fuel : Nat) (listed : Array Bool) (st : St) (Q : Exit → St → Prop) : Prop :=
  ∀ a w, Good P ty c nt st a w → wpAnyH P .any ops (lift P ty c nt Q) (Ag c.ZH c.w0) fuel listed a w

theorem va_weak {st' : St} (h : Weak P ty c nt st st') (k : va P ty c nt ops fuel listed st' Q) : va P ty c nt ops fuel listed st Q := fun a w g => k a w (h a w g)
theorem va_fact {p : Prop} (hp : ∀ a w, Good P ty c nt st a w → p) (k : p → va P ty c nt ops fuel listed st Q) : va P ty c nt ops fuel listed st Q := fun a w g => k (hp a w g) a w g

/-- a quiet operation comes first -/
theorem va_q (i : Nat) {op : Op} {x : T} (hi : ops[i]? = some ⟨dst, op, tp, pos, after, none⟩) (hs : Region.noSelect ops = true) (hf : Region.free .any ops listed i = true)
    (hr : (Region.ready .any ops listed).contains i = true) (q : Qt P ty c nt st dst op tp pos after x) (hd : dok nt dst)
    (k : va P ty c nt ops fuel (listed.setIfInBounds i true) (st.put dst x) Q) : va P ty c nt ops (fuel + 1) listed st Q := by
  rintro a w ⟨L, F, g⟩
  obtain ⟨v, h1, h2⟩ := q a w L F g
  refine wpAnyH_take (v := v) hi hs hf hr (fun _ _ _ h => nomatch h.1) (.inl ⟨rfl, fun w' hS => h1 w' (g.ag0.symm.trans hS)⟩) g.ag0 (k _ _ ⟨L, F, g.put (dok_all hd) h2⟩)

theorem yielded_of (g : GX P ty c nt st a w L F) {j d : Nat} {oj : Oper} {b : Bool} (hj : ops[j]? = some oj) (hdj : oj.dst = some d) (hb : st.tm d = some (vv (.bool b))) : yielded ops a.tmps j = some b := by
  have hv := TR_vv (g.tm d _ hb)
  have hlt : d < a.tmps.size := by
    rcases Nat.lt_or_ge d a.tmps.size with h | h
    · exact h
    · simp [Array.getD_eq_getD_getElem?, Array.getElem?_eq_none h, undef] at hv
  have : a.tmps[d]? = some (.bool b) := by
    rw [Array.getElem?_eq_getElem hlt]; simp [Array.getD_eq_getD_getElem?, Array.getElem?_eq_getElem hlt] at hv; rw [hv]
  simp [yielded, hj, hdj, this]
/-- the same, under a guard that lets it -/
theorem va_qg (i : Nat) {op : Op} {x : T} {j d : Nat} {want : Bool} {oj : Oper} (hi : ops[i]? = some ⟨dst, op, tp, pos, after, some (j, want)⟩) (hj : ops[j]? = some oj) (hdj : oj.dst = some d) (hb : st.tm d = some (vv (.bool want)))
    (hs : Region.noSelect ops = true) (hf : Region.free .any ops listed i = true) (hr : (Region.ready .any ops listed).contains i = true) (q : Qt P ty c nt st dst op tp pos after x) (hd : dok nt dst)
    (k : va P ty c nt ops fuel (listed.setIfInBounds i true) (st.put dst x) Q) : va P ty c nt ops (fuel + 1) listed st Q := by
  rintro a w ⟨L, F, g⟩
  obtain ⟨v, h1, h2⟩ := q a w L F g
  have hy := yielded_of g hj hdj hb
  exact wpAnyH_take (v := v) hi hs hf hr (fun _ _ _ h => nomatch h.1) (.inl ⟨by simp [Region.wanted, hy], fun w' hS => h1 w' (g.ag0.symm.trans hS)⟩) g.ag0 (k _ _ ⟨L, F, g.put (dok_all hd) h2⟩)
/-- one whose guard does not let it -/
theorem va_off (i : Nat) {op : Op} {j d : Nat} {want b : Bool} {oj : Oper} (hi : ops[i]? = some ⟨dst, op, tp, pos, after, some (j, want)⟩) (hj : ops[j]? = some oj) (hdj : oj.dst = some d) (hb : st.tm d = some (vv (.bool b)))
    (hne : b ≠ want) (hs : Region.noSelect ops = true) (hf : Region.free .any ops listed i = true) (hr : (Region.ready .any ops listed).contains i = true) (hd : dok nt dst)
    (k : va P ty c nt ops fuel (listed.setIfInBounds i true) (st.drop dst) Q) : va P ty c nt ops (fuel + 1) listed st Q := by
  rintro a w ⟨L, F, g⟩
  have hy := yielded_of g hj hdj hb
  exact wpAnyH_take (v := undef) hi hs hf hr (fun _ _ _ h => nomatch h.1) (.inr ⟨by simp [Region.wanted, hy, hne], rfl⟩) g.ag0 (k _ _ ⟨L, F, g.dropT (dok_all hd) _⟩)

/-- whichever comes up -/
theorem va_all (rs : List Nat) (hr : Region.ready .any ops listed = rs) (hne : rs ≠ [])
    (h : All (fun i => ∃ o, ops[i]? = some o ∧ vl P ty c nt ops [o] st (ExT (fun st' => va P ty c nt ops fuel (listed.setIfInBounds i true) st' Q) Q)) rs) : va P ty c nt ops (fuel + 1) listed st Q := by
  intro a w g
  refine wpAnyH_all hr hne fun i hi => ?_
  obtain ⟨o, ho, hv⟩ := h.mem i hi
  have h1 := hv a w g
  have hK : ∀ a' w', lift P ty c nt (ExT (fun st' => va P ty c nt ops fuel (listed.setIfInBounds i true) st' Q) Q) .normal a' w' →
      (Ag c.ZH c.w0 w' ∧ wpAnyH P .any ops (lift P ty c nt Q) (Ag c.ZH c.w0) fuel (listed.setIfInBounds i true) a' w') := by
    rintro a' w' ⟨_, st', hk, g'⟩
    obtain ⟨L', F', g''⟩ := g'
    exact ⟨g''.ag0, hk a' w' ⟨L', F', g''⟩⟩
  have hO : LetsOut (lift P ty c nt (ExT (fun st' => va P ty c nt ops fuel (listed.setIfInBounds i true) st' Q) Q)) → LetsOut (lift P ty c nt Q) := fun ⟨a', w', hp, st', hq, g'⟩ => ⟨a', w', hp, st', hq, g'⟩
  unfold wpList at h1
  unfold wpOp
  simp only [ho]
  split
  · rename_i hw
    rw [if_pos hw] at h1
    rcases h1 with h1 | ⟨h1, h2⟩
    · exact .inl (Oper.wp_mono2 hK (fun _ _ _ hp => nomatch hp.1) hO h1)
    · exact .inr ⟨h1, hO h2⟩
  · rename_i hw
    rw [if_neg hw] at h1
    exact hK _ _ h1
/-- only one may come up -/
theorem va_one (i : Nat) {o : Oper} (ho : ops[i]? = some o) (hr : Region.ready .any ops listed = [i])
    (h : vl P ty c nt ops [o] st (ExT (fun st' => va P ty c nt ops fuel (listed.setIfInBounds i true) st' Q) Q)) : va P ty c nt ops (fuel + 1) listed st Q :=
  va_all [i] hr (by simp) ⟨⟨o, ho, h⟩, trivial⟩
theorem va_done (hr : Region.ready .any ops listed = []) (h : Q .normal st) : va P ty c nt ops fuel listed st Q :=
  fun _ _ g => wpAnyH_done hr ⟨rfl, st, h, g⟩ fuel

/-! ### the region: nodes that nobody in it turns are frozen -/
def frz (ro : Nat → Bool) (st : St) : St := ⟨st.tm, fun n => bif ro n then none else st.nd n, st.k⟩
def frzN (ro : Nat → Bool) (N N0 : Nat → Option Node) : Nat → Option Node := fun n => bif ro n then N n else N0 n
def unfrz (ro : Nat → Bool) (N : Nat → Option Node) (st : St) : St := ⟨st.tm, fun n => bif ro n then N n else st.nd n, st.k⟩

theorem GX.frz (g : GX P ty c nt st a w L F) (ro : Nat → Bool) (nf : Bool) :
    GX P ty ⟨w, fun b o => ∃ n, ro n = false ∧ F n b o, L, L.Z, st.k, frzN ro st.nd c.fz, fun b o => c.H b o ∨ ∃ n, ro n = true ∧ F n b o, nf⟩ nt (frz ro st) a w L (fun n => bif ro n then bot else F n) := by
  have hF' : ∀ n b o, (bif ro n then bot else F n) b o → ro n = false ∧ F n b o := by
    intro n b o h
    cases hr : ro n <;> rw [hr] at h
    · exact ⟨rfl, h⟩
    · exact h.elim
  refine ⟨g.tyok, g.defers, g.size, LAg.refl _ _, ⟨fun nm nd hn => ?_, fun nm hn => ?_, fun x y hxy b o h1 h2 => g.sa.dis x y hxy b o (hF' _ _ _ h1).2 (hF' _ _ _ h2).2, fun x b o h1 hz => g.sa.disZ x b o (hF' _ _ _ h1).2 hz, fun x b o h1 => g.sa.lt x b o (hF' _ _ _ h1).2⟩,
    ZLe.rfl, fun _ _ h => .inl h, fun _ _ h => .inl h, g.zlt, fun _ _ _ h => h, g.tm, fun n b o h => .inl ⟨n, hF' n b o h⟩, Fr.refl _ _, Nat.le_refl _, g.k16, fun b o hz => ⟨g.zlt b o hz, ?_⟩, fun b o hz => ?_, fun nm nd hn => ?_⟩
  · simp only [Vm.frz] at hn
    cases hr : ro nm <;> rw [hr] at hn
    · obtain ⟨h1, h2⟩ := g.sa.node nm nd hn
      exact ⟨h1, h2⟩
    · cases hn
  · simp only [Vm.frz] at hn
    cases hr : ro nm <;> rw [hr] at hn
    · exact g.sa.none nm hn
    · exact Emp.bot
  · rintro ⟨n, _, hn⟩; exact g.sa.disZ n b o hn hz
  · rcases hz with hz | ⟨n, hr, hn⟩
    · refine ⟨Nat.lt_of_lt_of_le (g.ok.H0 b o hz).1 g.fr.size, ?_⟩
      rintro ⟨m, _, hm⟩
      rcases g.scope m b o hm with h | h
      · exact (g.ok.H0 b o hz).2 h
      · exact absurd (g.ok.H0 b o hz).1 (by omega)
    · refine ⟨g.sa.lt n b o hn, ?_⟩
      rintro ⟨m, hm, hmF⟩
      exact g.sa.dis n m (fun e => by rw [e, hm] at hr; cases hr) b o hn hmF
  · simp only [frzN] at hn
    cases hr : ro nm <;> rw [hr] at hn
    · obtain ⟨h1, f, hf, hN⟩ := g.ok.frz nm nd hn
      exact ⟨Nat.lt_of_lt_of_le h1 g.kf, f, fun b o h => .inl (hf b o h), hN.mono h1 g.zle g.agZ (g.ag0.sub fun b o h => .inr (hf b o h)) g.lay g.kf⟩
    · obtain ⟨h1, h2⟩ := g.sa.node nm nd hn
      exact ⟨h1, F nm, fun b o h => .inr ⟨nm, hr, h⟩, h2⟩

theorem GX.unfrz (g : GX P ty c nt st a w L F) (ro : Nat → Bool) {st' : St} {a' : Act} {w' : World} {L' : Lay} {F' : Nat → FP} {nf : Bool} (hc : c.nf = false)
    (g' : GX P ty ⟨w, fun b o => ∃ n, ro n = false ∧ F n b o, L, L.Z, st.k, frzN ro st.nd c.fz, fun b o => c.H b o ∨ ∃ n, ro n = true ∧ F n b o, nf⟩ nt st' a' w' L' F') :
    GX P ty c nt (unfrz ro st.nd st') a' w' L' (fun n => bif ro n then F n else F' n) := by
  have hz : Ag L.Z w w' := g'.agZ
  have hsize : w.heap.size ≤ w'.heap.size := g'.fr.size
  have hk : st.k ≤ st'.k := g'.kf
  have hsep : ∀ n m b o, ro n = true → ro m = false → F n b o → F' m b o → False := by
    intro n m b o hn hm h1 h2
    rcases g'.scope m b o h2 with ⟨q, hq, hqF⟩ | h
    · exact g.sa.dis n q (fun e => by rw [e, hq] at hn; cases hn) b o h1 hqF
    · have := g.sa.lt n b o h1; simp only at h; omega
  refine ⟨g.tyok, g'.defers, g'.size, fun n hn => (g'.lay n (Nat.lt_of_lt_of_le hn g.kf)).trans (g.lay n hn), ⟨fun nm nd hn => ?_, fun nm hn => ?_, fun x y hxy b o h1 h2 => ?_, fun x b o h1 => ?_, fun x b o h1 => ?_⟩,
    g.zle.trans g'.zle, fun b o h => (g'.znew b o h).elim (fun h => (g.znew b o h).imp id (g'.zle.2 b o)) .inr, fun b o h => ?_, g'.zlt, (fun e => by rw [hc] at e; cases e), g'.tm, fun n b o h => ?_, ?_, Nat.le_trans g.kf hk, g.ok⟩
  · simp only [Vm.unfrz] at hn ⊢
    cases hr : ro nm <;> rw [hr] at hn
    · exact g'.sa.node nm nd hn
    · obtain ⟨h1, h2⟩ := g.sa.node nm nd hn
      refine ⟨by omega, h2.mono h1 g'.zle hz (g'.ag0.sub fun b o h => .inr (.inr ⟨nm, hr, h⟩)) g'.lay hk⟩
  · simp only [Vm.unfrz] at hn
    cases hr : ro nm <;> rw [hr] at hn
    · exact g'.sa.none nm hn
    · exact g.sa.none nm hn
  · cases hx : ro x <;> cases hy : ro y <;> simp only [hx, hy, cond_true, cond_false] at h1 h2
    · exact g'.sa.dis x y hxy b o h1 h2
    · exact hsep y x b o hy hx h2 h1
    · exact hsep x y b o hx hy h1 h2
    · exact g.sa.dis x y hxy b o h1 h2
  · cases hx : ro x <;> simp only [hx, cond_true, cond_false] at h1
    · exact g'.sa.disZ x b o h1
    · intro hzb
      rcases g'.znew b o hzb with h | h
      · exact g.sa.disZ x b o h1 h
      · rcases g'.zfnew b o h with h | ⟨q, hq, hqF⟩ | h
        · exact g.sa.disZ x b o h1 (L.Z.sub b o h)
        · exact g.sa.dis x q (fun e => by rw [e, hq] at hx; cases hx) b o h1 hqF
        · have := g.sa.lt x b o h1; simp only at h; omega
  · cases hx : ro x <;> simp only [hx, cond_true, cond_false] at h1
    · exact g'.sa.lt x b o h1
    · have := g.sa.lt x b o h1; omega
  · rcases g'.zfnew b o h with h | ⟨q, _, hq⟩ | h
    · exact g.zfnew b o h
    · exact .inr (g.scope q b o hq)
    · right; right; have := g.fr.size; simp only at h; omega
  · cases hx : ro n <;> simp only [hx, cond_true, cond_false] at h
    · rcases g'.scope n b o h with ⟨q, _, hq⟩ | h
      · exact g.scope q b o hq
      · right; have := g.fr.size; simp only at h; omega
    · exact g.scope n b o h
  · refine g.fr.trans g'.fr fun x o hx => ?_
    rintro ⟨n, _, hn⟩
    rcases g.scope n x o hn with h | h
    · exact h
    · omega

theorem vc_region_any (hm : P.follows .mixedOrders = true) {id : Nat} {l : List Oper} (ro : Nat → Bool) (nf : Bool) (hc : c.nf = false) {N : Nat → Option Node} (hN : st.nd = N) {K : St → Prop} {Q : Exit → St → Prop}
    (hQ : ∀ st', K st' → Q .normal (unfrz ro N st'))
    (h : ∀ w0 S0 L0 Z0 H, va P ty ⟨w0, S0, L0, Z0, st.k, frzN ro N c.fz, H, nf⟩ nt l.toArray l.length (Array.replicate l.length false) (frz ro st) (ExT K fun _ _ => False)) :
    vc P ty c nt (.region id l.toArray true) st Q := by
  subst hN
  rintro a w ⟨L, F, g⟩
  have gd := g.drew
  have hwp := h w.drew (fun b o => ∃ n, ro n = false ∧ F n b o) L L.Z (fun b o => c.H b o ∨ ∃ n, ro n = true ∧ F n b o) a w.drew ⟨L, _, gd.frz ro nf⟩
  refine wp_mono (wp_region_held hm (S := Ag (Ctx.ZH ⟨w.drew, fun b o => ∃ n, ro n = false ∧ F n b o, L, L.Z, st.k, frzN ro st.nd c.fz, fun b o => c.H b o ∨ ∃ n, ro n = true ∧ F n b o, nf⟩) w.drew) hwp) ?_
  rintro e a' w' ⟨hp, st', hq, L', F', g'⟩
  cases e with
  | normal => exact ⟨rfl, _, hQ st' hq, L', _, gd.unfrz ro hc g'⟩
  | _ => exact hq.elim
end
end Go.Vm
namespace Go.Vm
open Go

section
variable {P : Program} {ty : Ty} {c : Ctx} {nt : Nat} {st : St} {Q : Exit → St → Prop}
variable {a : Act} {w : World} {L : Lay} {F : Nat → FP}
variable {dst : Option Nat} {tp : TypeId} {pos : String} {after : Array Edge}

def cmpv (op : BinOp) (m n : Int) : Bool :=
  match op with
  | .eql => decide (m = n)
  | .neq => !decide (m = n)
  | .lss => decide (m < n)
  | .leq => decide (m ≤ n)
  | .gtr => decide (n < m)
  | .geq => decide (n ≤ m)
  | _ => false
def isCmp : BinOp → Bool
  | .eql => true
  | .neq => true
  | .lss => true
  | .leq => true
  | .gtr => true
  | .geq => true
  | _ => false
theorem eql_t {m n : Int} (h : m = n) : cmpv .eql m n = true := decide_eq_true h
theorem eql_f {m n : Int} (h : m ≠ n) : cmpv .eql m n = false := decide_eq_false h
theorem neq_t {m n : Int} (h : m ≠ n) : cmpv .neq m n = true := by simp [cmpv, h]
theorem neq_f {m n : Int} (h : m = n) : cmpv .neq m n = false := by simp [cmpv, h]
theorem lss_t {m n : Int} (h : m < n) : cmpv .lss m n = true := decide_eq_true h
theorem lss_f {m n : Int} (h : n ≤ m) : cmpv .lss m n = false := decide_eq_false (by omega)
theorem leq_t {m n : Int} (h : m ≤ n) : cmpv .leq m n = true := decide_eq_true h
theorem leq_f {m n : Int} (h : n < m) : cmpv .leq m n = false := decide_eq_false (by omega)
theorem gtr_t {m n : Int} (h : n < m) : cmpv .gtr m n = true := decide_eq_true h
theorem gtr_f {m n : Int} (h : m ≤ n) : cmpv .gtr m n = false := decide_eq_false (by omega)
theorem geq_t {m n : Int} (h : n ≤ m) : cmpv .geq m n = true := decide_eq_true h
theorem geq_f {m n : Int} (h : m < n) : cmpv .geq m n = false := decide_eq_false (by omega)

theorem eqGuard_run_int (op : BinOp) (xt : TypeId) (x y : Operand) (k k' : IntKind) (m n : Int) (w : World) : (eqGuard op xt x y (.int k m) (.int k' n)).run P w = .ok () w := by
  unfold eqGuard; cases op <;> rfl
theorem eqGuard_run_str (op : BinOp) (xt : TypeId) (x y : Operand) (m n : ByteArray) (w : World) : (eqGuard op xt x y (.string m) (.string n)).run P w = .ok () w := by
  unfold eqGuard; cases op <;> rfl
theorem eqGuard_run_bool (op : BinOp) (xt : TypeId) (x y : Operand) (m n : Bool) (w : World) : (eqGuard op xt x y (.bool m) (.bool n)).run P w = .ok () w := by
  unfold eqGuard; cases op <;> rfl

theorem q_cmp {op : BinOp} {xt yt : TypeId} {x y : Operand} {kd : IntKind} {m n : Int} {b : Bool} (hx : ev st x = some (vv (.int kd m))) (hy : ev st y = some (vv (.int kd n)))
    (hop : isCmp op = true) (hb : cmpv op m n = b) : Qt P ty c nt st dst (.binOp op xt x y yt) tp pos after (vv (.bool b)) := by
  refine q_binOp hx hy (fun w x y => ?_) rfl
  rw [Sem.run_bind, eqGuard_run_int, Result.andThen_ok, ← hb]
  cases op <;> first | (cases hop; done) | simp [binOp, Op.intCmp, cmpv, bne, BEq.beq]
theorem q_arith {op : BinOp} {xt yt : TypeId} {x y : Operand} {kd : IntKind} {m n r : Int} (hx : ev st x = some (vv (.int kd m))) (hy : ev st y = some (vv (.int kd n)))
    (hr : ∀ w : World, (Op.intArith op kd m n).run P w = .ok (.int kd r) w) (hop : op = .add ∨ op = .sub ∨ op = .mul) : Qt P ty c nt st dst (.binOp op xt x y yt) tp pos after (vv (.int kd r)) := by
  refine q_binOp hx hy (fun w x y => ?_) rfl
  rw [Sem.run_bind, eqGuard_run_int, Result.andThen_ok, ← hr w]
  rcases hop with rfl | rfl | rfl <;> simp [binOp]
theorem q_add {xt yt : TypeId} {x y : Operand} {kd : IntKind} {m n r : Int} (hx : ev st x = some (vv (.int kd m))) (hy : ev st y = some (vv (.int kd n)))
    (hr : kd.wrap (m + n) = r) : Qt P ty c nt st dst (.binOp .add xt x y yt) tp pos after (vv (.int kd r)) := q_arith hx hy (fun w => by rw [← hr]; rfl) (by simp)
theorem q_sub {xt yt : TypeId} {x y : Operand} {kd : IntKind} {m n r : Int} (hx : ev st x = some (vv (.int kd m))) (hy : ev st y = some (vv (.int kd n)))
    (hr : kd.wrap (m - n) = r) : Qt P ty c nt st dst (.binOp .sub xt x y yt) tp pos after (vv (.int kd r)) := q_arith hx hy (fun w => by rw [← hr]; rfl) (by simp)
theorem q_mul {xt yt : TypeId} {x y : Operand} {kd : IntKind} {m n r : Int} (hx : ev st x = some (vv (.int kd m))) (hy : ev st y = some (vv (.int kd n)))
    (hr : kd.wrap (m * n) = r) : Qt P ty c nt st dst (.binOp .mul xt x y yt) tp pos after (vv (.int kd r)) := q_arith hx hy (fun w => by rw [← hr]; rfl) (by simp)
theorem q_quo {xt yt : TypeId} {x y : Operand} {kd : IntKind} {m n r : Int} (hx : ev st x = some (vv (.int kd m))) (hy : ev st y = some (vv (.int kd n)))
    (h0 : n ≠ 0) (hr : kd.wrap (m.tdiv n) = r) : Qt P ty c nt st dst (.binOp .quo xt x y yt) tp pos after (vv (.int kd r)) := by
  refine q_binOp hx hy (fun w x y => ?_) rfl
  rw [Sem.run_bind, eqGuard_run_int, Result.andThen_ok, ← hr]
  simp [binOp, Op.intDiv, h0]
theorem q_rem {xt yt : TypeId} {x y : Operand} {kd : IntKind} {m n r : Int} (hx : ev st x = some (vv (.int kd m))) (hy : ev st y = some (vv (.int kd n)))
    (h0 : n ≠ 0) (hr : m.tmod n = r) : Qt P ty c nt st dst (.binOp .rem xt x y yt) tp pos after (vv (.int kd r)) := by
  refine q_binOp hx hy (fun w x y => ?_) rfl
  rw [Sem.run_bind, eqGuard_run_int, Result.andThen_ok, ← hr]
  simp [binOp, Op.intDiv, h0]
def bitv (op : BinOp) (k : IntKind) (x y : Int) : Int :=
  let a := BitVec.ofInt k.bits x
  let b := BitVec.ofInt k.bits y
  match op with
  | .and => k.wrap (a &&& b).toNat
  | .or => k.wrap (a ||| b).toNat
  | .xor => k.wrap (a ^^^ b).toNat
  | .andNot => k.wrap (a &&& ~~~b).toNat
  | _ => 0
def isBit : BinOp → Bool
  | .and => true
  | .or => true
  | .xor => true
  | .andNot => true
  | _ => false
theorem q_bit {op : BinOp} {xt yt : TypeId} {x y : Operand} {kd : IntKind} {m n r : Int} (hx : ev st x = some (vv (.int kd m))) (hy : ev st y = some (vv (.int kd n)))
    (hop : isBit op = true) (hr : bitv op kd m n = r) : Qt P ty c nt st dst (.binOp op xt x y yt) tp pos after (vv (.int kd r)) := by
  refine q_binOp hx hy (fun w x y => ?_) rfl
  rw [Sem.run_bind, eqGuard_run_int, Result.andThen_ok, ← hr]
  cases op <;> first | (cases hop; done) | simp [binOp, Op.intBits, bitv]
theorem q_shr {xt yt : TypeId} {x y : Operand} {kd kd' : IntKind} {m n r : Int} (hx : ev st x = some (vv (.int kd m))) (hy : ev st y = some (vv (.int kd' n)))
    (h0 : 0 ≤ n) (hr : m.fdiv (2 ^ (min n.toNat kd.bits)) = r) : Qt P ty c nt st dst (.binOp .shr xt x y yt) tp pos after (vv (.int kd r)) := by
  refine q_binOp hx hy (fun w x y => ?_) rfl
  rw [Sem.run_bind, eqGuard_run_int, Result.andThen_ok, ← hr]
  have : ¬ n < 0 := by omega
  simp [binOp, Op.shift, this]
theorem q_shl {xt yt : TypeId} {x y : Operand} {kd kd' : IntKind} {m n r : Int} (hx : ev st x = some (vv (.int kd m))) (hy : ev st y = some (vv (.int kd' n)))
    (h0 : 0 ≤ n) (hr : kd.wrap (m * 2 ^ (min n.toNat kd.bits)) = r) : Qt P ty c nt st dst (.binOp .shl xt x y yt) tp pos after (vv (.int kd r)) := by
  refine q_binOp hx hy (fun w x y => ?_) rfl
  rw [Sem.run_bind, eqGuard_run_int, Result.andThen_ok, ← hr]
  have : ¬ n < 0 := by omega
  simp [binOp, Op.shift, this]
theorem q_not {xt : TypeId} {x : Operand} {b : Bool} (hx : ev st x = some (vv (.bool b))) : Qt P ty c nt st dst (.unOp .not xt x) tp pos after (vv (.bool (!b))) :=
  q_unOp hx (fun w => by rfl) rfl
theorem q_neg {xt : TypeId} {x : Operand} {kd : IntKind} {m r : Int} (hx : ev st x = some (vv (.int kd m))) (hr : kd.wrap (0 - m) = r) : Qt P ty c nt st dst (.unOp .neg xt x) tp pos after (vv (.int kd r)) :=
  q_unOp hx (fun w => by rw [← hr]; rfl) rfl
theorem q_convInt {s d : TypeId} {x : Operand} {kd k : IntKind} {m r : Int} {ds dd : TyD} (hs : ty s = some ds) (hd : ty d = some dd) (hdesc : dd.desc = .int k) (hx : ev st x = some (vv (.int kd m)))
    (hr : k.wrap m = r) : Qt P ty c nt st dst (.convert s d x) tp pos after (vv (.int k r)) := by
  intro a w L F g
  refine ⟨.int k r, fun w' _ => ?_, vv_TR rfl⟩
  simp [execOp, ev_vv g hx, convert, run_und g.tyok hs, run_und g.tyok hd, hdesc, Conv.intToInt, hr]

/-! truths -/
def beqv (op : BinOp) (x y : Bool) : Bool :=
  match op with
  | .eql => x == y
  | .neq => !(x == y)
  | _ => false
theorem q_cmpB {op : BinOp} {xt yt : TypeId} {x y : Operand} {m n b : Bool} {d : TyD} (ht : ty xt = some d) (hdesc : d.desc = .bool) (hx : ev st x = some (vv (.bool m))) (hy : ev st y = some (vv (.bool n)))
    (hop : op = .eql ∨ op = .neq) (hb : beqv op m n = b) : Qt P ty c nt st dst (.binOp op xt x y yt) tp pos after (vv (.bool b)) := by
  intro a w L F g
  refine ⟨.bool b, fun w' _ => ?_, vv_TR rfl⟩
  simp only [execOp, ev_vv g hx, ev_vv g hy, Sem.run_bind, eqGuard_run_bool, Result.andThen_ok]
  have hu : P.underlying xt = some .bool := by rw [← hdesc]; exact (g.tyok xt d ht).1
  have he : (Op.equal xt (.bool m) (.bool n)).run P w' = .ok (m == n) w' := run_equalIn_bool (P := P) w' 9999 xt m n hu
  rcases hop with rfl | rfl
  · simp only [binOp, Sem.run_bind, he, Result.andThen_ok, Sem.run_pure, ← hb, beqv]
  · simp only [binOp, Sem.run_bind, he, Result.andThen_ok, Sem.run_pure, ← hb, beqv]

/-! texts -/
def seqv (op : BinOp) (x y : ByteArray) : Bool :=
  match op with
  | .eql => decide (x = y)
  | .neq => !decide (x = y)
  | _ => false
theorem toList_beq (x y : ByteArray) : (x.toList == y.toList) = decide (x = y) := by
  rw [ByteArray.toList_eq, ByteArray.toList_eq]
  by_cases h : x = y
  · subst h; simp
  · rw [decide_eq_false h]
    simp only [beq_eq_false_iff_ne, ne_eq]
    intro e
    apply h
    cases x; cases y
    congr 1
    exact Array.ext' e
theorem q_cmpS {op : BinOp} {xt yt : TypeId} {x y : Operand} {m n : ByteArray} {b : Bool} (hx : ev st x = some (vv (.string m))) (hy : ev st y = some (vv (.string n)))
    (hop : op = .eql ∨ op = .neq) (hb : seqv op m n = b) : Qt P ty c nt st dst (.binOp op xt x y yt) tp pos after (vv (.bool b)) := by
  refine q_binOp hx hy (fun w x y => ?_) rfl
  rw [Sem.run_bind, eqGuard_run_str, Result.andThen_ok, ← hb]
  rcases hop with rfl | rfl
  · rw [binOp_string_eql]; simp only [Sem.run_pure, toList_beq]; rfl
  · rw [binOp_string_neq]; simp only [Sem.run_pure, toList_beq]; rfl
theorem q_cat {xt yt : TypeId} {x y : Operand} {m n : ByteArray} (hx : ev st x = some (vv (.string m))) (hy : ev st y = some (vv (.string n)))
    (hb : m.size + n.size ≤ 9223372036854775807) : Qt P ty c nt st dst (.binOp .add xt x y yt) tp pos after (vv (.string (m ++ n))) := by
  refine q_binOp hx hy (fun w x y => ?_) rfl
  rw [Sem.run_bind, eqGuard_run_str, Result.andThen_ok]
  have hm : IntKind.i64.max = 9223372036854775807 := by decide
  have : ¬ ((m.size + n.size : Nat) : Int) > IntKind.i64.max := by rw [hm]; omega
  simp only [binOp, Op.stringOp]
  rw [if_neg this]; rfl
theorem q_min {t : TypeId} {ts : Array TypeId} {x y : Operand} {kd kd' : IntKind} {m n : Int} (hx : ev st x = some (vv (.int kd m))) (hy : ev st y = some (vv (.int kd' n))) :
    Qt P ty c nt st dst (.call ⟨.builtin .min, #[x, y], ts⟩) tp pos after (vv (.int kd (if n < m then n else m))) := by
  intro a w L F g
  refine ⟨_, fun w' _ => ?_, vv_TR rfl⟩
  simp [execOp, resolve, ev_vv g hx, ev_vv g hy, invoke, builtin, Builtin.min_, Builtin.min2]
end
end Go.Vm
namespace Go.Vm
open Go
def isAggD : TypeDesc → Bool
  | .struct _ => true
  | .array _ _ => true
  | _ => false
def tyOf (P : Program) (t : TypeId) : Option TyD :=
  match P.info? t, P.underlying t with
  | some i, some d => match i.zero with
    | some z => bif (z.cells.toList.length == i.size) && z.cells.toList.all Value.oneCell' then some ⟨isAggD d, i.size, z.cells.toList, i.bytes, d⟩ else none
    | none => none
  | _, _ => none
theorem tyOf_ok (P : Program) : TyOk P (tyOf P) := by
  intro t d h
  unfold tyOf at h
  cases hi : P.info? t with
  | none => simp [hi] at h
  | some i =>
    cases hu : P.underlying t with
    | none => simp [hi, hu] at h
    | some u =>
      cases hz : i.zero with
      | none => simp [hi, hu, hz] at h
      | some z =>
        simp only [hi, hu, hz] at h
        cases hb : (z.cells.toList.length == i.size) && z.cells.toList.all Value.oneCell' with
        | false => rw [hb] at h; simp at h
        | true =>
          rw [hb] at h
          simp only [cond_true, Option.some.injEq] at h
          subst h
          rw [Bool.and_eq_true, beq_iff_eq] at hb
          exact ⟨rfl, ⟨i, rfl, rfl, rfl, z, hz, by simp⟩, by cases u <;> rfl, hb.1, fun v hv => List.all_eq_true.1 hb.2 v hv⟩
theorem tyOk_tab (P : Program) (l : List (Nat × TyD)) (h : All (fun p => tyOf P p.1 = some p.2) l) : TyOk P (lkp l) := fun t d ht => tyOf_ok P t d (h.mem _ (lkp_mem ht))
end Go.Vm
namespace Go.Vm
open Go

theorem renX_bel0 {σ : Nat → Nat} {x : X} (h : belX 0 x = true) : renX σ x = x := by
  cases x with
  | c c => rfl
  | hdr nm lo n => simp [belX] at h
  | ptr nm i off => simp [belX] at h
  | sp cs => rfl
  | fn f caps =>
    cases caps with
    | nil => rfl
    | cons c r => simp [belX] at h
theorem map_self {α : Type} {f : α → α} : ∀ {l : List α}, (∀ x, x ∈ l → f x = x) → l.map f = l
  | [], _ => rfl
  | x :: l, h => by rw [List.map_cons, h x List.mem_cons_self, map_self fun y hy => h y (List.mem_cons_of_mem _ hy)]
theorem renV_bel0 {σ : Nat → Nat} {v : V} (h : belV 0 v = true) : renV σ v = v := by
  cases v with
  | one x => exact congrArg V.one (renX_bel0 h)
  | agg xs => exact congrArg V.agg (map_self fun x hx => renX_bel0 (List.all_eq_true.1 h x hx))
theorem renT_bel0 {σ : Nat → Nat} {t : T} (h : belT 0 t = true) : renT σ t = t := by
  cases t with
  | v v => exact congrArg T.v (renV_bel0 h)
  | tup vs => exact congrArg T.tup (map_self fun x hx => renV_bel0 (List.all_eq_true.1 h x hx))
theorem belX_mono {k k' : Nat} (hk : k ≤ k') {x : X} (h : belX k x = true) : belX k' x = true := by
  cases x with
  | c c => rfl
  | hdr nm lo n => simp [belX] at h ⊢; omega
  | ptr nm i off => simp [belX] at h ⊢; omega
  | sp cs => rfl
  | fn f caps =>
    simp only [belX, List.all_eq_true, decide_eq_true_eq] at h ⊢
    intro c hc; have := h c hc; omega
theorem belV_mono {k k' : Nat} (hk : k ≤ k') {v : V} (h : belV k v = true) : belV k' v = true := by
  cases v with
  | one x => exact belX_mono hk h
  | agg xs => exact List.all_eq_true.2 fun x hx => belX_mono hk (List.all_eq_true.1 h x hx)
theorem belT_mono {k k' : Nat} (hk : k ≤ k') {t : T} (h : belT k t = true) : belT k' t = true := by
  cases t with
  | v v => exact belV_mono hk h
  | tup vs => exact List.all_eq_true.2 fun x hx => belV_mono hk (List.all_eq_true.1 h x hx)

abbrev iv (n : Int) : V := .one (.c (.val (.int .i64 n)))
abbrev bv (b : Bool) : V := .one (.c (.val (.bool b)))
abbrev sv (s : ByteArray) : V := .one (.c (.val (.string s)))
abbrev shv (sz : Nat) (es : List (List C)) : V := .one (.c (.sh sz es))
abbrev noN : Nat → Option Node := fun _ => none
/-- a call that gives back r, and nothing new of it is anybody's -/
def Just (t : T) : T → List Node → (Nat → Option Node) → Prop := fun r' ns N' => r' = t ∧ ns = [] ∧ N' = noN

section
variable {P : Program} {ty : Ty} {c : Ctx} {nt : Nat} {st : St} {Q : Exit → St → Prop}
theorem ret_just {fn : Func} {t : T} {rvs : List ResultVar} {vs : List V} (hrv : fn.results = rvs.toArray) (hres : ResAll P ty c nt st rvs vs) (hb : belT 0 t = true) (ht : tOf vs = t) :
    Ret P ty c nt fn (Just t) st := by
  refine ret_rule [] t [] noN hrv hres (by rw [ht, renT_bel0 hb]) (belT_mono (Nat.zero_le _) hb) rfl .nil (by simp) (by simp) (by intro n nd' h; cases h) ⟨rfl, rfl, rfl⟩
end
end Go.Vm
namespace Go.Vm
open Go

section
variable {P : Program} {ty : Ty} {c : Ctx} {nt : Nat} {st : St} {Q : Exit → St → Prop}
variable {a : Act} {w : World} {L : Lay} {F : Nat → FP}

theorem flatten_clo (es : List (List C)) : (clo es).flatten = es.flatten.map X.c := by
  simp only [clo]; rw [← List.map_flatten]

theorem node_CM {Z : Zn} {k m n sz : Nat} {es : List (List C)} {v : Value} {f g : FP} (hM : NodeR w L Z k m ⟨sz, clo es⟩ f) (hx : XR w L Z k (.hdr m 0 n) v g) (hn : n = es.length) :
    CM w Z (.own sz es) v f := by
  subst hn
  obtain ⟨_, hk, hle, A, hv, hA⟩ := hx
  obtain ⟨gf, vals, c1, c2, c3, c4, c5, c6⟩ := hM.ex
  have hlen : es.length ≤ (L m).cap := by have := hM.len; simpa [clo] using this
  have hget : ∀ p y, es.flatten[p]? = some y → (clo es).flatten[p]? = some (X.c y) := fun p y hp => by rw [flatten_clo, List.getElem?_map, hp]; rfl
  rcases Nat.eq_zero_or_pos (L m).cap with h0 | h0
  · have hes : es = [] := List.eq_nil_of_length_eq_zero (by omega)
    subst hes
    rw [hv, h0]
    refine .nil sz A f fun b o hb => ?_
    rcases (c6 b o).1 hb with ⟨_, h1, h2⟩ | ⟨p, hp⟩
    · rw [h0] at h2; omega
    · exact c3 p (by simp [clo]) b o hp
  · have hA' := hA h0
    subst hA'
    have hsp := hM.spot
    have hpa : paddr L m 0 0 = (L m).addr := by
      revert hsp
      simp only [paddr, Nat.zero_mul, Nat.add_zero]
      generalize (L m).addr = A
      intro hsp
      obtain ⟨b, o, s⟩ := A
      simp only at hsp; subst hsp; rfl
    rw [hv, hpa, Nat.sub_zero]
    refine .own sz es (L m).addr (L m).cap f gf vals hsp hM.lim hlen (fun e he => ?_) hM.row (fun p y hp => c1 p _ (hget p y hp)) (fun p y hp => c2 p _ (hget p y hp)) (fun p hp => c3 p (by rw [flatten_clo, List.length_map]; exact hp)) c4 c5 c6
    have := hM.wid (e.map X.c) (List.mem_map.2 ⟨e, he, rfl⟩)
    simpa using this

theorem GX.close1 (h : GX P ty c nt st a w L F) {nm i j m n sz : Nat} {nd : Node} {e : List X} {es : List (List C)} (hn : st.nd nm = some nd) (hi : nd.es[i]? = some e)
    (hj : e[j]? = some (.hdr m 0 n)) (hm : st.nd m = some ⟨sz, clo es⟩) (hl : n = es.length) (hne : m ≠ nm) :
    ∃ F', GX P ty c nt ((st.setN nm (some ⟨nd.sz, nd.es.set i (e.set j (.c (.own sz es)))⟩)).setN m none) a w L F' ∧ ∀ x b o, F' x b o → ∃ y, F y b o := by
  obtain ⟨hk, hN⟩ := h.sa.node nm nd hn
  obtain ⟨hkm, hM⟩ := h.sa.node m _ hm
  obtain ⟨g, vals, c1, c2, c3, c4, c5, c6⟩ := hN.ex
  have hw := hN.wid e (List.mem_of_getElem? hi)
  have hjl : j < nd.sz := by rw [← hw]; exact lt_of_get hj
  have hp0 : nd.es.flatten[i * nd.sz + j]? = some (.hdr m 0 n) := by rw [flatten_get hN.wid hi hjl]; exact hj
  have hel : (e.set j (.c (.own sz es))).length = nd.sz := by rw [List.length_set]; exact hw
  have hpos : ∀ p, (nd.es.set i (e.set j (.c (.own sz es)))).flatten[p]? = if p = i * nd.sz + j then some (.c (.own sz es)) else nd.es.flatten[p]? := by
    intro p
    rw [flatten_set hN.wid hi hel p]
    by_cases hq : i * nd.sz ≤ p ∧ p < i * nd.sz + nd.sz
    · rw [if_pos hq, List.getElem?_set]
      by_cases he : j = p - i * nd.sz
      · rw [if_pos he, if_pos (by omega), if_pos (by omega)]
      · rw [if_neg he, if_neg (by omega)]
        have := flatten_get hN.wid hi (j := p - i * nd.sz) (by omega)
        rw [show i * nd.sz + (p - i * nd.sz) = p by omega] at this
        exact this.symm
    · rw [if_neg hq, if_neg (by omega)]
  have hfl : (nd.es.set i (e.set j (.c (.own sz es)))).flatten.length = nd.es.flatten.length := by
    rw [flatten_length_of_wid (set_length_flatten hN.wid hel), hN.flen, List.length_set]
  have hg0 : Emp (g (i * nd.sz + j)) := (c2 _ _ hp0).1
  have hC : CM w L.Z (.own sz es) (vals (i * nd.sz + j)) (F m) := node_CM hM (c2 _ _ hp0) hl
  have hgF : ∀ p b o, g p b o → F nm b o := fun p b o hb => (c6 b o).2 (.inr ⟨p, hb⟩)
  let f' : FP := fun b o => F nm b o ∨ F m b o
  have hN' : NodeR w L L.Z st.k nm ⟨nd.sz, nd.es.set i (e.set j (.c (.own sz es)))⟩ f' := by
    refine ⟨hN.sz, hN.spot, hN.lim, by simpa using hN.len, set_length_flatten hN.wid hel, hN.row, fun p => if p = i * nd.sz + j then F m else g p, vals, fun p x hp => ?_, fun p x hp => ?_, fun p hp => ?_, fun p => ?_, fun p q hpq => ?_, fun b o => ?_⟩
    · rw [hpos p] at hp
      by_cases hc : p = i * nd.sz + j
      · rw [hc]; exact c1 _ _ hp0
      · rw [if_neg hc] at hp; exact c1 p x hp
    · rw [hpos p] at hp
      dsimp only
      by_cases hc : p = i * nd.sz + j
      · rw [if_pos hc] at hp; cases hp
        rw [if_pos hc, hc]; exact hC
      · rw [if_neg hc] at hp; rw [if_neg hc]; exact c2 p x hp
    · rw [hfl] at hp
      have : i * nd.sz + j < nd.es.flatten.length := lt_of_get hp0
      dsimp only; rw [if_neg (by omega)]; exact c3 p hp
    · dsimp only
      split
      · intro b o h1 h2; exact h.sa.dis m nm hne b o h1 ((c6 b o).2 (.inl h2))
      · exact c4 p
    · dsimp only
      split
      · rw [if_neg (by omega)]
        intro b o h1 h2; exact h.sa.dis m nm hne b o h1 (hgF q b o h2)
      · split
        · intro b o h1 h2; exact h.sa.dis m nm hne b o h2 (hgF p b o h1)
        · exact c5 p q hpq
    · constructor
      · rintro (hb | hb)
        · rcases (c6 b o).1 hb with hb | ⟨p, hb⟩
          · exact .inl hb
          · refine .inr ⟨p, ?_⟩
            dsimp only
            by_cases hc : p = i * nd.sz + j
            · rw [hc] at hb; exact (hg0 b o hb).elim
            · rw [if_neg hc]; exact hb
        · exact .inr ⟨i * nd.sz + j, by dsimp only; rw [if_pos rfl]; exact hb⟩
      · rintro (hb | ⟨p, hb⟩)
        · exact .inl ((c6 b o).2 (.inl hb))
        · by_cases hc : p = i * nd.sz + j
          · rw [if_pos hc] at hb; exact .inr hb
          · rw [if_neg hc] at hb; exact .inl (hgF p b o hb)
  have hsub : ∀ x b o, updF (updF F nm f') m bot x b o → ∃ y, F y b o := by
    intro x b o hb
    by_cases hx : x = m
    · rw [hx, updF_same] at hb; exact hb.elim
    · rw [updF_ne _ hx] at hb
      by_cases hy : x = nm
      · rw [hy, updF_same] at hb; exact hb.elim (fun h => ⟨_, h⟩) (fun h => ⟨_, h⟩)
      · rw [updF_ne _ hy] at hb; exact ⟨_, hb⟩
  refine ⟨updF (updF F nm f') m bot, h.redo (S := bot) (fun _ => rfl) (Nat.le_refl _) (LAg.refl _ _) (Fr.refl _ _) (fun _ _ x => x.elim) ?_ ?_ ?_ (fun x b o hb => .inl (hsub x b o hb)) (fun x b o hb => ?_), hsub⟩
  · intro x nd' hx
    simp only [St.setN] at hx ⊢
    by_cases h1 : x = m
    · subst h1; simp at hx
    · rw [beq_no h1] at hx
      simp only [cond_false] at hx
      rw [updF_ne _ h1]
      by_cases h2 : x = nm
      · subst h2
        simp at hx; subst hx
        exact ⟨hk, by rw [updF_same]; exact hN'⟩
      · rw [beq_no h2] at hx
        rw [updF_ne _ h2]; exact h.sa.node x nd' hx
  · intro x hx
    simp only [St.setN] at hx
    by_cases h1 : x = m
    · subst h1; rw [updF_same]; exact Emp.bot
    · rw [beq_no h1] at hx
      simp only [cond_false] at hx
      rw [updF_ne _ h1]
      by_cases h2 : x = nm
      · subst h2; simp at hx
      · rw [beq_no h2] at hx
        rw [updF_ne _ h2]; exact h.sa.none x hx
  · intro x y hxy b o h1 h2
    have key : ∀ z, updF (updF F nm f') m bot z b o → z ≠ m ∧ (F z b o ∨ (z = nm ∧ F m b o)) := by
      intro z hz
      by_cases hc : z = m
      · rw [hc, updF_same] at hz; exact hz.elim
      · rw [updF_ne _ hc] at hz
        refine ⟨hc, ?_⟩
        by_cases hd : z = nm
        · rw [hd, updF_same] at hz; rw [hd]; exact hz.imp id fun h => ⟨rfl, h⟩
        · rw [updF_ne _ hd] at hz; exact .inl hz
    obtain ⟨x1, x2⟩ := key x h1
    obtain ⟨y1, y2⟩ := key y h2
    rcases x2 with x2 | ⟨x3, x2⟩ <;> rcases y2 with y2 | ⟨y3, y2⟩
    · exact h.sa.dis x y hxy b o x2 y2
    · exact h.sa.dis x m x1 b o x2 y2
    · exact h.sa.dis m y (Ne.symm y1) b o x2 y2
    · exact hxy (x3.trans y3.symm)
  · obtain ⟨y, hy⟩ := hsub x b o hb
    exact h.sa.lt y b o hy

theorem Weak.close1 {nm i j m n sz : Nat} {nd : Node} {e : List X} {es : List (List C)} (hn : st.nd nm = some nd) (hi : nd.es[i]? = some e)
    (hj : e[j]? = some (.hdr m 0 n)) (hm : st.nd m = some ⟨sz, clo es⟩) (hl : n = es.length) (hne : m ≠ nm) :
    Weak P ty c nt st ((st.setN nm (some ⟨nd.sz, nd.es.set i (e.set j (.c (.own sz es)))⟩)).setN m none) := by
  rintro a w ⟨L, F, g⟩
  obtain ⟨F', g', _⟩ := g.close1 hn hi hj hm hl hne
  exact ⟨L, F', g'⟩

/-- the tail of an array is forgotten -/
theorem GX.trunc (h : GX P ty c nt st a w L F) {m n : Nat} {nd : Node} (hm : st.nd m = some nd) :
    ∃ F', GX P ty c nt (st.setN m (some ⟨nd.sz, nd.es.take n⟩)) a w L F' ∧ ∀ x b o, F' x b o → F x b o := by
  obtain ⟨hk, hN⟩ := h.sa.node m nd hm
  obtain ⟨g, vals, c1, c2, c3, c4, c5, c6⟩ := hN.ex
  have hw' : ∀ e, e ∈ nd.es.take n → e.length = nd.sz := fun e he => hN.wid e (List.mem_of_mem_take he)
  have hfl : ∀ (p : Nat) (x : X), (nd.es.take n).flatten[p]? = some x → nd.es.flatten[p]? = some x := by
    intro p x hp
    rw [flatten_take hN.wid, List.getElem?_take] at hp
    split at hp
    · exact hp
    · cases hp
  let f' : FP := fun b o => rowFP (L m).addr ((L m).cap * nd.sz) b o ∨ ∃ p, p < (nd.es.take n).flatten.length ∧ g p b o
  have hf' : ∀ b o, f' b o → F m b o := by
    rintro b o (hb | ⟨p, _, hb⟩)
    · exact (c6 b o).2 (.inl hb)
    · exact (c6 b o).2 (.inr ⟨p, hb⟩)
  have hN' : NodeR w L L.Z st.k m ⟨nd.sz, nd.es.take n⟩ f' := by
    refine ⟨hN.sz, hN.spot, hN.lim, by have := hN.len; simp only [List.length_take]; omega, hw', hN.row, fun p => if p < (nd.es.take n).flatten.length then g p else bot, vals, fun p x hp => c1 p x (hfl p x hp), fun p x hp => ?_, fun p hp => ?_, fun p => ?_, fun p q hpq => ?_, fun b o => ?_⟩
    · dsimp only; rw [if_pos (lt_of_get hp)]; exact c2 p x (hfl p x hp)
    · dsimp only at hp ⊢; rw [if_neg (by omega)]; exact Emp.bot
    · dsimp only; split
      · exact c4 p
      · exact Emp.bot.disj _
    · dsimp only; split
      · split
        · exact c5 p q hpq
        · exact Emp.bot.disj' _
      · exact Emp.bot.disj _
    · constructor
      · rintro (hb | ⟨p, hp, hb⟩)
        · exact .inl hb
        · exact .inr ⟨p, by dsimp only; rw [if_pos hp]; exact hb⟩
      · rintro (hb | ⟨p, hb⟩)
        · exact .inl hb
        · split at hb
          · exact .inr ⟨p, by assumption, hb⟩
          · exact hb.elim
  have hsub : ∀ x b o, updF F m f' x b o → F x b o := by
    intro x b o hb
    by_cases hx : x = m
    · rw [hx, updF_same] at hb; rw [hx]; exact hf' b o hb
    · rw [updF_ne _ hx] at hb; exact hb
  refine ⟨updF F m f', h.redo (S := bot) (fun _ => rfl) (Nat.le_refl _) (LAg.refl _ _) (Fr.refl _ _) (fun _ _ x => x.elim) ?_ ?_ (fun x y hxy b o h1 h2 => h.sa.dis x y hxy b o (hsub x b o h1) (hsub y b o h2)) (fun x b o hb => .inl ⟨x, hsub x b o hb⟩) (fun x b o hb => h.sa.lt x b o (hsub x b o hb)), hsub⟩
  · intro x nd' hx
    simp only [St.setN] at hx ⊢
    by_cases h2 : x = m
    · subst h2
      simp at hx; subst hx
      exact ⟨hk, by rw [updF_same]; exact hN'⟩
    · rw [beq_no h2] at hx
      rw [updF_ne _ h2]; exact h.sa.node x nd' hx
  · intro x hx
    simp only [St.setN] at hx
    by_cases h2 : x = m
    · subst h2; simp at hx
    · rw [beq_no h2] at hx
      rw [updF_ne _ h2]; exact h.sa.none x hx
theorem Weak.trunc {m n : Nat} {nd : Node} (hm : st.nd m = some nd) : Weak P ty c nt st (st.setN m (some ⟨nd.sz, nd.es.take n⟩)) := by
  rintro a w ⟨L, F, g⟩
  obtain ⟨F', g', _⟩ := g.trunc (n := n) hm
  exact ⟨L, F', g'⟩

/-- told of the same names; what is not told is forgotten -/
theorem Weak.keep (tl : List (Nat × T)) (nl : List (Nat × Node)) (k : Nat) (hk : st.k ≤ k) (ht : All (fun p => st.tm p.1 = some p.2) tl) (hn : All (fun p => st.nd p.1 = some p.2) nl) :
    Weak P ty c nt st (mkSt tl nl k) := by
  rintro a w ⟨L, F, g⟩
  let F' : Nat → FP := fun n => match lkp nl n with | some _ => F n | none => bot
  have hF' : ∀ n b o, F' n b o → F n b o := by
    intro n b o hb
    simp only [F'] at hb
    cases hx : lkp nl n with
    | none => rw [hx] at hb; exact hb.elim
    | some _ => rw [hx] at hb; exact hb
  refine ⟨L, F', g.tyok, g.defers, g.size, g.lay, ⟨fun n nd h => ?_, fun n h => ?_, fun x y hxy b o h1 h2 => g.sa.dis x y hxy b o (hF' x b o h1) (hF' y b o h2), fun x b o hb => g.sa.disZ _ b o (hF' x b o hb), fun x b o hb => g.sa.lt _ b o (hF' x b o hb)⟩,
    g.zle, g.znew, g.zfnew, g.zlt, g.znf, fun t x hx => (g.tm t x (ht.mem _ (lkp_mem hx))).mono ZLe.rfl (fun _ _ _ => ⟨rfl, rfl⟩) (LAg.refl _ _) hk, fun n b o hb => g.scope _ b o (hF' n b o hb), g.fr, Nat.le_trans g.kf hk, g.ok⟩
  · have hl : lkp nl n = some nd := h
    obtain ⟨h1, h2⟩ := g.sa.node n nd (hn.mem _ (lkp_mem hl))
    simp only [F', hl]
    exact ⟨Nat.lt_of_lt_of_le h1 hk, h2.mono h1 ZLe.rfl (fun _ _ _ => ⟨rfl, rfl⟩) (fun _ _ _ => ⟨rfl, rfl⟩) (LAg.refl _ _) hk⟩
  · have hl : lkp nl n = none := h
    simp only [F', hl]; exact Emp.bot
end
end Go.Vm
namespace Go.Vm
open Go

/-- parts laid over cells -/
def bld (places : Nat → Option (Nat × Nat)) : List X → List (Nat × V) → Option (List X)
  | xs, [] => some xs
  | xs, (i, v) :: r =>
    match places i with
    | none => none
    | some (off, size) => bif Nat.beq v.cells.length size && Nat.ble (off + size) xs.length then bld places (stor xs off v.cells) r else none
def evParts (st : St) : List (Nat × Operand) → Option (List (Nat × V))
  | [] => some []
  | (i, x) :: r =>
    match ev st x with
    | some (.v v) => match evParts st r with
      | some l => some ((i, v) :: l)
      | none => none
    | _ => none
def fieldPlaces (ty : Ty) (fields : Array Field) (i : Nat) : Option (Nat × Nat) :=
  match fields[i]? with
  | none => none
  | some f => match ty f.type with
    | none => none
    | some df => some (f.offset, df.size)

section
variable {P : Program} {ty : Ty} {c : Ctx} {nt : Nat} {st : St} {Q : Exit → St → Prop}
variable {a : Act} {w : World} {L : Lay} {F : Nat → FP}
variable {ops : Array Oper} {rest : List Oper} {dst : Option Nat} {tp : TypeId} {pos : String} {after : Array Edge}

def CR (w : World) (L : Lay) (Z : Zn) (k : Nat) (cells : Array Value) (xs : List X) : Prop :=
  cells.size = xs.length ∧ ∀ (p : Nat) (x : X), xs[p]? = some x → ∃ v, cells[p]? = some v ∧ XR w L Z k x v bot

theorem CR.set {Z : Zn} {k : Nat} {cells : Array Value} {xs : List X} (h : CR w L Z k cells xs) {i : Nat} {x : X} {v : Value} (hx : XR w L Z k x v bot) : CR w L Z k (cells.setIfInBounds i v) (xs.set i x) := by
  refine ⟨by simp [h.1], fun p y hp => ?_⟩
  rw [List.getElem?_set] at hp
  by_cases hip : i = p
  · rw [if_pos hip] at hp
    split at hp
    · cases hp
      refine ⟨v, ?_, hx⟩
      subst hip
      exact Array.getElem?_setIfInBounds_self_of_lt (by rw [h.1]; assumption)
    · cases hp
  · rw [if_neg hip] at hp
    obtain ⟨u, hu, hxr⟩ := h.2 p y hp
    exact ⟨u, by rw [Array.getElem?_setIfInBounds_ne hip]; exact hu, hxr⟩

theorem CR.overlay {Z : Zn} {k off : Nat} (vs : List Value) : ∀ (n : Nat) (cells : Array Value) (xs ys : List X), CR w L Z k cells xs → vs.length = ys.length →
    (∀ (j : Nat) y u, ys[j]? = some y → vs[j]? = some u → XR w L Z k y u bot) →
    CR w L Z k ((vs.zipIdx n).foldl (fun cs cj => cs.setIfInBounds (off + cj.2) cj.1) cells) (stor xs (off + n) ys) := by
  induction vs with
  | nil =>
    intro n cells xs ys h hl _
    obtain rfl : ys = [] := List.eq_nil_of_length_eq_zero (by simpa using hl.symm)
    exact h
  | cons u vs ih =>
    intro n cells xs ys h hl hpt
    cases ys with
    | nil => simp at hl
    | cons y ys =>
      simp only [List.zipIdx_cons, List.foldl_cons, stor]
      exact ih (n + 1) _ _ _ (h.set (hpt 0 y u rfl rfl)) (by simpa using hl) fun j y' u' hy hu => hpt (j + 1) y' u' hy hu

theorem CR.fill {Z : Zn} {k : Nat} {places : Nat → Option (Nat × Nat)} : ∀ (parts : List (Nat × Value)) (pv : List (Nat × V)) (cells : Array Value) (xs r : List X), CR w L Z k cells xs → parts.length = pv.length →
    (∀ (j : Nat) p q, parts[j]? = some p → pv[j]? = some q → p.1 = q.1 ∧ VR w L Z k q.2 p.2) → bld places xs pv = some r →
    ∃ cells', Instr.fill places cells parts = some cells' ∧ CR w L Z k cells' r
  | [], [], cells, xs, r, h, _, _, hb => ⟨cells, rfl, by simp only [bld, Option.some.injEq] at hb; subst hb; exact h⟩
  | [], _ :: _, _, _, _, _, hl, _, _ => by simp at hl
  | _ :: _, [], _, _, _, _, hl, _, _ => by simp at hl
  | (i, u) :: parts, (i', v) :: pv, cells, xs, r, h, hl, hpt, hb => by
    obtain ⟨e, hv⟩ := hpt 0 _ _ rfl rfl
    simp only at e hv
    subst e
    obtain ⟨h1, _, h3⟩ := VR.cells hv
    simp only [bld] at hb
    cases hp : places i with
    | none => rw [hp] at hb; cases hb
    | some os =>
      obtain ⟨off, size⟩ := os
      rw [hp] at hb
      simp only at hb
      cases hc : Nat.beq v.cells.length size && Nat.ble (off + size) xs.length with
      | false => rw [hc] at hb; cases hb
      | true =>
        rw [hc] at hb
        simp only [cond_true] at hb
        rw [Bool.and_eq_true] at hc
        have hs : v.cells.length = size := Nat.eq_of_beq_eq_true hc.1
        have ho : off + size ≤ xs.length := Nat.le_of_ble_eq_true hc.2
        have hov := CR.overlay (off := off) u.cells.toList 0 cells xs v.cells h (by simpa using h1) (fun j y w' hy hw' => by
          obtain ⟨y2, hy2, hxr⟩ := h3 j y hy
          rw [Array.getElem?_toList, hy2] at hw'; cases hw'; exact hxr)
        obtain ⟨cells', hf, hcr⟩ := CR.fill (places := places) parts pv _ _ r hov (by simpa using hl) (fun j p q hp hq => hpt (j + 1) p q hp hq) hb
        refine ⟨cells', ?_, hcr⟩
        have hfold : u.cells.zipIdx.foldl (fun cs (x : Value × Nat) => cs.setIfInBounds (off + x.2) x.1) cells = (u.cells.toList.zipIdx).foldl (fun cs cj => cs.setIfInBounds (off + cj.2) cj.1) cells := by
          rw [← Array.foldl_toList, Array.toList_zipIdx]
        simp only [Instr.fill, hp]
        rw [if_neg (by rw [h1, hs, h.1]; simpa using ho)]
        rw [← hf, ← hfold]

theorem evParts_ok (g : GX P ty c nt st a w L F) : ∀ {l : List (Nat × Operand)} {pv : List (Nat × V)}, evParts st l = some pv →
    (l.map fun p => (p.1, a.eval p.2)).length = pv.length ∧ ∀ (j : Nat) p q, (l.map fun p => (p.1, a.eval p.2))[j]? = some p → pv[j]? = some q → p.1 = q.1 ∧ VR w L L.Z st.k q.2 p.2
  | [], pv, h => by simp only [evParts, Option.some.injEq] at h; subst h; simp
  | (i, x) :: r, pv, h => by
    simp only [evParts] at h
    split at h
    · rename_i v hx
      split at h
      · rename_i l' hr
        simp only [Option.some.injEq] at h
        subst h
        obtain ⟨h1, h2⟩ := evParts_ok g hr
        refine ⟨by simpa using h1, fun j p q hp hq => ?_⟩
        cases j with
        | zero => simp at hp hq; subst hp; subst hq; exact ⟨rfl, ev_ok g hx⟩
        | succ j => simp only [List.map_cons, List.getElem?_cons_succ] at hp hq; exact h2 j p q hp hq
      · cases h
    · cases h

theorem CR.zero (hT : TyOk P ty) {t : TypeId} {d : TyD} (ht : ty t = some d) (w : World) (L : Lay) (Z : Zn) (k : Nat) : CR w L Z k d.zero.toArray (d.zero.map fun u => X.c (C.val u)) := by
  obtain ⟨_, _, _, _, hone⟩ := hT t d ht
  refine ⟨by simp, fun p x hp => ?_⟩
  rw [List.getElem?_map] at hp
  obtain ⟨u, hu, rfl⟩ := Option.map_eq_some_iff.1 hp
  exact ⟨u, by simpa using hu, .val u _ (hone u (List.mem_of_getElem? hu)) Emp.bot⟩

theorem mapM_places (hT : TyOk P ty) : ∀ (fs : List Field), (fs.all fun f => (ty f.type).isSome) = true →
    (fs.mapM fun f => (P.info? f.type).map fun i => (f.offset, i.size)) = some (fs.map fun f => (f.offset, ((ty f.type).map TyD.size).getD 0))
  | [], _ => rfl
  | f :: fs, h => by
    simp only [List.all_cons, Bool.and_eq_true] at h
    obtain ⟨df, hdf⟩ := Option.isSome_iff_exists.1 h.1
    obtain ⟨_, ⟨i, hi, hs, _⟩, _⟩ := hT _ df hdf
    simp [List.mapM_cons, mapM_places hT fs h.2, hi, hs, hdf]

theorem q_build {t : TypeId} {d : TyD} {fields : Array Field} {parts : List (Nat × Operand)} {pv : List (Nat × V)} {r : List X} (ht : ty t = some d) (hdesc : d.desc = .struct fields)
    (hall : (fields.toList.all fun f => (ty f.type).isSome) = true) (hp : evParts st parts = some pv) (hb : bld (fieldPlaces ty fields) (d.zero.map fun u => X.c (C.val u)) pv = some r) :
    Qt P ty c nt st dst (.build t parts.toArray) tp pos after (.v (.agg r)) := by
  intro a w L F g
  obtain ⟨h1, h2⟩ := evParts_ok g hp
  obtain ⟨cells', hf, hcr⟩ := CR.fill (places := fieldPlaces ty fields) _ pv _ _ r (CR.zero g.tyok ht w L L.Z st.k) h1 h2 hb
  obtain ⟨hu, ⟨i, hi, _, _, z, hz, hzc⟩, _⟩ := g.tyok t d ht
  have hplaces : ∀ x : Nat, ((fields.toList.map fun f => (f.offset, ((ty f.type).map TyD.size).getD 0)).toArray[x]? : Option (Nat × Nat)) = fieldPlaces ty fields x := by
    intro x
    simp only [List.getElem?_toArray, List.getElem?_map, Array.getElem?_toList, fieldPlaces]
    cases hfx : fields[x]? with
    | none => rfl
    | some f =>
      have := List.all_eq_true.1 hall f (by rw [Array.mem_toList_iff]; exact Array.mem_of_getElem? hfx)
      obtain ⟨df, hdf⟩ := Option.isSome_iff_exists.1 this
      simp [hdf]
  have hbuilt : P.built t (parts.map fun p => (p.1, a.eval p.2)) = some cells' := by
    rw [hdesc] at hu
    simp only [Program.built, hi, hu, hz, mapM_places g.tyok _ hall, hzc]
    rw [show (fun x : Nat => ((fields.toList.map fun f => (f.offset, ((ty f.type).map TyD.size).getD 0)).toArray[x]? : Option (Nat × Nat))) = fieldPlaces ty fields from funext hplaces]
    exact hf
  refine ⟨.agg cells', fun w' _ => ?_, cells'.toList, by simp, by simpa using hcr.1, fun j x y hx hy => ?_⟩
  · have := run_build (P := P) w' t (parts.map fun p => (p.1, a.eval p.2)).toArray cells' (by simpa using hbuilt)
    simp only [execOp, List.map_toArray]
    rw [Sem.run_bind, this]; rfl
  · obtain ⟨v, hv, hxr⟩ := hcr.2 j x hx
    rw [Array.getElem?_toList, hv] at hy; cases hy; exact hxr

/-! slices -/
theorem bld_rows {size : Nat} : ∀ (vs : List V) (n : Nat) (pre : List X) (post : List X), (∀ v, v ∈ vs → v.cells.length = size) → pre.length = n * size → post.length = vs.length * size →
    bld (fun i => some (i * size, size)) (pre ++ post) (vs.zipIdx n |>.map fun p => (p.2, p.1)) = some (pre ++ (vs.map V.cells).flatten)
  | [], n, pre, post, _, _, hpo => by
    have : post = [] := List.eq_nil_of_length_eq_zero (by simpa using hpo)
    subst this; simp [bld]
  | v :: vs, n, pre, post, hw, hpr, hpo => by
    have hv := hw v List.mem_cons_self
    have hst : ∀ (ys pre post : List X), ys.length ≤ post.length → stor (pre ++ post) pre.length ys = pre ++ (ys ++ post.drop ys.length) := by
      intro ys
      induction ys with
      | nil => intro pre post _; simp [stor]
      | cons y ys ih =>
        intro pre post hl
        cases post with
        | nil => simp at hl
        | cons z post =>
          simp only [stor]
          have h1 : (pre ++ z :: post).set pre.length y = (pre ++ [y]) ++ post := by simp
          rw [h1]
          have := ih (pre ++ [y]) post (by simpa using hl)
          simp only [List.length_append, List.length_cons, List.length_nil, Nat.zero_add] at this
          rw [this]; simp
    simp only [List.zipIdx_cons, List.map_cons, bld]
    have hc : (Nat.beq v.cells.length size && Nat.ble (n * size + size) (pre ++ post).length) = true := by
      rw [Bool.and_eq_true]
      refine ⟨by rw [hv]; exact Nat.beq_refl _, Nat.ble_eq_true_of_le ?_⟩
      rw [List.length_append, hpr, hpo, List.length_cons, Nat.add_mul]; omega
    rw [hc]
    simp only [cond_true]
    rw [← hpr, hst _ _ _ (by rw [hpo, hv, List.length_cons, Nat.add_mul]; omega), ← List.append_assoc]
    rw [bld_rows vs (n + 1) (pre ++ v.cells) (post.drop v.cells.length) (fun u hu => hw u (List.mem_cons_of_mem _ hu)) (by rw [List.length_append, hpr, hv, Nat.add_mul]; omega)
      (by rw [List.length_drop, hpo, hv, List.length_cons, Nat.add_mul]; omega)]
    simp

theorem vl_buildSlice {t el : TypeId} {n : Nat} {d de : TyD} {parts : List (Nat × Operand)} {vs : List V} (ht : ty t = some d) (hdesc : d.desc = .slice el) (hel : ty el = some de)
    (hp : evParts st parts = some (vs.zipIdx.map fun p => (p.2, p.1))) (hn : n = vs.length) (hw : ∀ v, v ∈ vs → v.cells.length = de.size) (hz : de.size ≠ 0) (hb : n * de.size ≤ 16777216) (hd : dok nt dst)
    (k : vl P ty c nt ops rest ((st.add ⟨de.size, vs.map V.cells⟩).put dst (.v (.one (.hdr st.k 0 n)))) Q) :
    vl P ty c nt ops (⟨dst, .buildSlice t n parts.toArray, tp, pos, after, none⟩ :: rest) st Q := by
  refine vl_val (st.add ⟨de.size, vs.map V.cells⟩) _ hd (fun a w L F g => ?_) k
  subst hn
  obtain ⟨h1, h2⟩ := evParts_ok g hp
  obtain ⟨z, hz1, hzc⟩ := run_zero g.tyok hel w
  obtain ⟨_, ⟨i, hi, hsi, hby, _⟩, _, hlen, hone⟩ := g.tyok el de hel
  have hzs : z.cells.size = de.size := by rw [hzc]; simpa using hlen
  let cells : Array Value := (Array.range (vs.length * de.size)).map fun j => z.cells[j % z.cells.size]!
  have hcs : cells.size = vs.length * de.size := by simp [cells]
  have hcr0 : CR w L L.Z st.k cells (cells.toList.map fun u => X.c (C.val u)) := by
    refine ⟨by simp, fun p x hp => ?_⟩
    rw [List.getElem?_map] at hp
    obtain ⟨u, hu, rfl⟩ := Option.map_eq_some_iff.1 hp
    rw [Array.getElem?_toList] at hu
    refine ⟨u, hu, .val u _ ?_ Emp.bot⟩
    have hplt : p < vs.length * de.size := by rw [← hcs]; exact (Array.getElem?_eq_some_iff.1 hu).1
    have hg := madeCells_get z.cells _ p (by omega) hplt
    have : cells[p]? = z.cells[p % z.cells.size]? := hg
    rw [this, hzc] at hu
    exact hone u (List.mem_of_getElem? (by simpa using hu))
  have hbld := bld_rows (size := de.size) vs 0 [] (cells.toList.map fun u => X.c (C.val u)) hw (by simp) (by simp [hcs])
  simp only [List.nil_append] at hbld
  obtain ⟨cells', hf, hcr⟩ := CR.fill (places := fun i => some (i * de.size, de.size)) _ _ _ _ _ hcr0 h1 h2 hbld
  have hwid : ∀ e, e ∈ vs.map V.cells → e.length = de.size := by
    intro e he
    obtain ⟨v, hv, rfl⟩ := List.mem_map.1 he
    exact hw v hv
  have hcs' : cells'.size = vs.length * de.size := by rw [hcr.1, flatten_length_of_wid hwid, List.length_map]
  refine ⟨.slice (some ⟨w.heap.size, 0, none⟩) vs.length vs.length, w.alloc (.cells cells' el), _, _, ?_, g.alloc cells' el de.size vs.length (vs.map V.cells) hcs' ?_ (by simp) hwid hcr.2, ?_⟩
  · have hrun : (Instr.buildSlice t vs.length (parts.map fun p => (p.1, a.eval p.2)).toArray).run P w = .ok (.slice (some ⟨w.heap.size, 0, none⟩) vs.length vs.length) (w.alloc (.cells cells' el)) := by
      simp only [Instr.buildSlice, Sem.run_bind, run_und g.tyok ht, hdesc, Result.andThen_ok, run_size g.tyok hel]
      rw [if_neg (by omega)]
      by_cases h0 : vs.length * de.size = 0
      · have hemp : ((Array.range (vs.length * de.size)).map fun j => (#[] : Array Value)[j % (#[] : Array Value).size]!) = cells := by
          apply Array.ext
          · simp [cells]
          · intro q h1 _; simp [h0] at h1
        have hf0 : Instr.fill (fun i => some (i * de.size, de.size)) ((Array.range (vs.length * de.size)).map fun x => (#[] : Array Value)[x % (#[] : Array Value).size]!) (parts.map fun p => (p.1, a.eval p.2)) = some cells' := by
          rw [hemp]; exact hf
        rw [if_pos h0]
        simp only [Sem.run_bind, Sem.run_pure, Result.andThen_ok]
        rw [hf0]
        simp only [Sem.run_bind, Sem.run_pure, Result.andThen_ok, newRow, run_newObj]
        rfl
      · rw [if_neg h0]
        simp only [Sem.run_bind, Sem.run_pure, Result.andThen_ok, hz1]
        have hf' : Instr.fill (fun i => some (i * de.size, de.size)) ((Array.range (vs.length * de.size)).map fun x => z.cells[x % z.cells.size]!) (parts.map fun p => (p.1, a.eval p.2)) = some cells' := hf
        simp only [hf', Sem.run_bind, newRow, run_newObj, Result.andThen_ok, Sem.run_pure]
        rfl
    simp only [execOp, List.map_toArray]
    rw [Sem.run_bind, hrun]; rfl
  · have : vs.length ≤ vs.length * de.size := Nat.le_mul_of_pos_right _ (by omega)
    omega
  · refine ⟨Emp.bot, by simp [St.add], by rw [Lay.upd_same]; simp, some ⟨w.heap.size, 0, none⟩, by rw [Lay.upd_same]; simp, ?_⟩
    intro _; simp [paddr, Lay.upd_same]
end
end Go.Vm
namespace Go.Vm
open Go

structure FnAt (P : Program) (f : FuncId) (fn : Func) : Prop where
  fns : P.funcs[f]? = some fn
  bd : fn.body.isNone = false
  nm : (fn.name == "runtime.NumGoroutine") = false
/-- a function's contract -/
structure Ctr (P : Program) (ty : Ty) (f : FuncId) (vs : List V) (N : List Node) (K : T → List Node → (Nat → Option Node) → Prop) : Prop where
  fn : ∃ fn, FnAt P f fn
  run : VCalls P ty f vs (fun n => N[n]?) K
  ns : nsK K
/-- the result t over new nodes ns; the nodes handed in are now N' -/
def Gives (t : T) (ns N' : List Node) : T → List Node → (Nat → Option Node) → Prop := fun r' ns' M => r' = t ∧ ns' = ns ∧ M = fun n => N'[n]?
theorem nsK_gives {t : T} {ns N' : List Node} (ht : nsT t = true) (hn : All nsN ns) (hN : All nsN N') : nsK (Gives t ns N') := by
  rintro r ns' M ⟨rfl, rfl, rfl⟩
  exact ⟨ht, fun n hm => hn.mem n hm, fun i nd h => hN.mem nd (List.mem_of_getElem? h)⟩
theorem nzK_gives {t : T} {ns N' : List Node} (ht : nzT t = true) (hn : All nzN ns) (hN : All nzN N') : nzK (Gives t ns N') := by
  rintro r ns' M ⟨rfl, rfl, rfl⟩
  exact ⟨ht, fun n hm => hn.mem n hm, fun i nd h => hN.mem nd (List.mem_of_getElem? h)⟩
theorem nzN_clo {sz : Nat} {es : List (List C)} (h : ∀ e, e ∈ es → e.all C.noZ = true) : nzN ⟨sz, clo es⟩ := by
  intro e he
  obtain ⟨e', he', rfl⟩ := List.mem_map.1 he
  have := h e' he'
  rw [List.all_map]
  exact this
theorem nsN_clo {sz : Nat} {es : List (List C)} (h : ∀ e, e ∈ es → e.all C.noSh = true) : nsN ⟨sz, clo es⟩ := by
  intro e he
  obtain ⟨e', he', rfl⟩ := List.mem_map.1 he
  have := h e' he'
  rw [List.all_map]
  exact this

section
variable {P : Program} {ty : Ty} {c : Ctx} {nt : Nat} {st : St} {Q : Exit → St → Prop}
variable {a : Act} {w : World} {L : Lay} {F : Nat → FP}
variable {ops : Array Oper} {rest : List Oper} {dst : Option Nat} {tp : TypeId} {pos : String} {after : Array Edge}

theorem ctr {f : FuncId} {vs : List V} {N : List Node} {K : T → List Node → (Nat → Option Node) → Prop} {fn : Func} {code : Code} (hf : FnAt P f fn) (hb : fn.body = some code) (hns : nsK K)
    (hle : vs.length ≤ fn.ntmps)
    (h : ∀ w0 S0 L0 Z, vc P ty (fnCtx w0 S0 L0 Z) fn.ntmps code ⟨argTm vs, fun n => N[n]?, 16⟩ (Body P ty (fnCtx w0 S0 L0 Z) fn.ntmps fn K)) : Ctr P ty f vs N K :=
  ⟨⟨fn, hf⟩, vcalls hf.fns hb rfl hle h, hns⟩
theorem Ctr.mono {f : FuncId} {vs : List V} {N : List Node} {K K' : T → List Node → (Nat → Option Node) → Prop} (h : Ctr P ty f vs N K) (hk : ∀ r ns N', K r ns N' → K' r ns N') (hn : nsK K') : Ctr P ty f vs N K' :=
  ⟨h.fn, h.run.mono hk, hn⟩

def VOkL (P : Program) (ty : Ty) (c : Ctx) (nt : Nat) (st : St) (ins : List Nat) : List V → List V → Prop
  | [], [] => True
  | v :: l, v' :: l' => VOk P ty c nt st ins v v' ∧ VOkL P ty c nt st ins l l'
  | _, _ => False
theorem VOkL.len {ins : List Nat} : ∀ {l l' : List V}, VOkL P ty c nt st ins l l' → l.length = l'.length
  | [], [], _ => rfl
  | _ :: _, _ :: _, h => congrArg (· + 1) h.2.len
  | [], _ :: _, h => h.elim
  | _ :: _, [], h => h.elim
theorem VOkL.get {ins : List Nat} : ∀ {l l' : List V}, VOkL P ty c nt st ins l l' → ∀ (j : Nat) v v', l[j]? = some v → l'[j]? = some v' → VOk P ty c nt st ins v v'
  | [], [], _, j, v, v', h, _ => by simp at h
  | _ :: _, _ :: _, h, 0, v, v', h1, h2 => by simp at h1 h2; subst h1; subst h2; exact h.1
  | _ :: _, _ :: _, h, j + 1, v, v', h1, h2 => by simp only [List.getElem?_cons_succ] at h1 h2; exact h.2.get j v v' h1 h2
  | [], _ :: _, h, _, _, _, _, _ => h.elim
  | _ :: _, [], h, _, _, _, _, _ => h.elim
def InsL (st : St) (σ : Nat → Nat) : List Nat → List Node → Prop
  | [], [] => True
  | m :: ms, nd' :: l => (∃ nd, st.nd m = some nd ∧ NR σ 16 nd nd') ∧ InsL st σ ms l
  | _, _ => False
theorem InsL.len {σ : Nat → Nat} : ∀ {l : List Nat} {l' : List Node}, InsL st σ l l' → l.length = l'.length
  | [], [], _ => rfl
  | _ :: _, _ :: _, h => congrArg (· + 1) h.2.len
  | [], _ :: _, h => h.elim
  | _ :: _, [], h => h.elim
theorem InsL.get {σ : Nat → Nat} : ∀ {l : List Nat} {l' : List Node}, InsL st σ l l' → ∀ (i : Nat) m, l[i]? = some m → ∃ nd nd', st.nd m = some nd ∧ l'[i]? = some nd' ∧ NR σ 16 nd nd'
  | [], [], _, i, m, h => by simp at h
  | _ :: _, nd' :: _, h, 0, m, h1 => by simp at h1; subst h1; obtain ⟨nd, h2, h3⟩ := h.1; exact ⟨nd, nd', h2, rfl, h3⟩
  | _ :: _, _ :: _, h, i + 1, m, h1 => by simp only [List.getElem?_cons_succ] at h1 ⊢; exact h.2.get i m h1
  | [], _ :: _, h, _, _, _ => h.elim
  | _ :: _, [], h, _, _, _ => h.elim

def capV (caps : List (Nat × Nat × Nat)) : List V := caps.map fun c => V.one (.ptr c.1 c.2.1 c.2.2)
def evAll (st : St) : List Operand → Option (List V)
  | [] => some []
  | x :: r => match ev st x with
    | some (.v v) => match evAll st r with
      | some l => some (v :: l)
      | none => none
    | _ => none
theorem evAll_ok : ∀ {l : List Operand} {vs : List V}, evAll st l = some vs → l.map (ev st) = vs.map (fun v => some (T.v v))
  | [], vs, h => by simp only [evAll, Option.some.injEq] at h; subst h; rfl
  | x :: r, vs, h => by
    simp only [evAll] at h
    split at h
    · rename_i v hx
      split at h
      · rename_i l hr
        simp only [Option.some.injEq] at h; subst h
        simp [hx, evAll_ok hr]
      · cases h
    · cases h

/-- a call, by a contract -/
theorem vl_callC {x : Operand} {args : List Operand} {ats : Array TypeId} {f : FuncId} {caps : List (Nat × Nat × Nat)} {cvs vs : List V} (ins : List Nat) {N : List Node}
    {K : T → List Node → (Nat → Option Node) → Prop} (hC : Ctr P ty f vs N K) (hx : ev st x = some (.v (.one (.fn f caps)))) (hcv : evAll st args = some cvs)
    (hvs : VOkL P ty c nt st ins (cvs ++ capV caps) vs) (hi : InsL st (insσ ins) ins N) (hnd : ins.Nodup) (hle : ins.length ≤ 16) (hnf : c.nf = false ∨ nzK K) (hd : dok nt dst)
    (k : ∀ r ns N', K r ns N' → vl P ty c nt ops rest ((callSt st ins N' ns).put dst (renT (callτ ins st.k) r)) Q) :
    vl P ty c nt ops (⟨dst, .call ⟨.value x, args.toArray, ats⟩, tp, pos, after, none⟩ :: rest) st Q := by
  obtain ⟨fn, hfn⟩ := hC.fn
  have hl := hvs.len
  refine vl_call (cvs := cvs) (vs := vs) (ins := ins) (N := fun n => N[n]?) hx hfn.fns hfn.bd hfn.nm (by simpa using evAll_ok hcv) (by rw [← hl]; simp [capV]) hvs.get
    ⟨hnd, hle, fun i m h => by obtain ⟨nd, nd', h1, h2, h3⟩ := hi.get i m h; exact ⟨nd, nd', h1, h2, h3⟩, fun i h => List.getElem?_eq_none (by rw [← hi.len]; exact h)⟩ hC.run hC.ns hnf hd k
/-- a call that takes no node and gives back what holds no name -/
theorem vl_callP {x : Operand} {args : List Operand} {ats : Array TypeId} {f : FuncId} {cvs vs : List V} {t : T} (hC : Ctr P ty f vs [] (Gives t [] [])) (hx : ev st x = some (.v (.one (.fn f [])))) (hcv : evAll st args = some cvs)
    (hvs : VOkL P ty c nt st [] cvs vs) (hb : belT 0 t = true) (hz : c.nf = false ∨ nzT t = true) (hd : dok nt dst) (k : vl P ty c nt ops rest (st.put dst t) Q) :
    vl P ty c nt ops (⟨dst, .call ⟨.value x, args.toArray, ats⟩, tp, pos, after, none⟩ :: rest) st Q := by
  refine vl_fact (p := ∀ n nd, st.nd n = some nd → n < st.k) (fun a w ⟨L, F, g⟩ n nd h => (g.sa.node n nd h).1) fun hbd => ?_
  refine vl_callC [] hC hx hcv (by simpa [capV] using hvs) trivial .nil (by simp) (hz.imp id fun h => nzK_gives h trivial trivial) hd ?_
  rintro r ns N' ⟨rfl, rfl, rfl⟩
  rw [renT_bel0 hb]
  refine vl_weak (st' := st.put dst r) ?_ k
  rintro a w ⟨L, F, g⟩
  refine ⟨L, F, ?_⟩
  have hst : ((callSt st [] (fun n => ([] : List Node)[n]?) []).put dst r) = ⟨(st.put dst r).tm, fun n => bif Nat.blt n st.k then st.nd n else none, st.k⟩ := by
    cases dst <;> simp [callSt, St.put, pos?]
  rw [hst] at g
  have hnd : (st.put dst r).nd = st.nd ∧ (st.put dst r).k = st.k := by cases dst <;> exact ⟨rfl, rfl⟩
  have hnone : ∀ n, ¬ n < st.k → Emp (F n) := fun n hn => g.sa.none n (by simp only; rw [blt_false hn]; rfl)
  refine ⟨g.tyok, g.defers, g.size, g.lay, ⟨fun nm nd h => ?_, fun nm h => ?_, g.sa.dis, g.sa.disZ, g.sa.lt⟩, g.zle, g.znew, g.zfnew, g.zlt, g.znf, fun t x h => by rw [hnd.2]; exact g.tm t x h, g.scope, g.fr, by rw [hnd.2]; exact g.kf, g.ok⟩
  · rw [hnd.1] at h
    rw [hnd.2]
    rcases Nat.lt_or_ge nm st.k with hlt | hge
    · exact g.sa.node nm nd (by simp only; rw [blt_true hlt]; exact h)
    · exact absurd (hbd nm nd h) (by omega)
  · rw [hnd.1] at h
    rcases Nat.lt_or_ge nm st.k with hlt | hge
    · exact g.sa.none nm (by simp only; rw [blt_true hlt]; exact h)
    · exact hnone nm (by omega)

theorem XOk.fn {f : FuncId} {caps caps' : List (Nat × Nat × Nat)} {ins : List Nat} (hl : ins.length ≤ 16) (hc : caps = caps'.map fun c => (insσ ins c.1, c.2)) (hb : ∀ c, c ∈ caps' → c.1 < ins.length) :
    XOk P ty c nt st ins (.fn f caps) (.fn f caps') := fun a w L F _ u g hx _ => by
  obtain ⟨h1, h2, h3⟩ := hx
  refine ⟨Emp.bot, ?_, fun c hc => Nat.lt_of_lt_of_le (hb c hc) hl⟩
  rw [h2, hc, List.map_map]
  rfl

def evPtrs (st : St) : List Operand → Option (List (Nat × Nat × Nat))
  | [] => some []
  | x :: r => match ev st x with
    | some (.v (.one (.ptr nm i off))) => match evPtrs st r with
      | some l => some ((nm, i, off) :: l)
      | none => none
    | _ => none
theorem evPtrs_ok (g : GX P ty c nt st a w L F) : ∀ {l : List Operand} {caps : List (Nat × Nat × Nat)}, evPtrs st l = some caps →
    l.map a.eval = caps.map (fun c => Value.pointer (some (paddr L c.1 c.2.1 c.2.2))) ∧ ∀ c, c ∈ caps → c.1 < st.k
  | [], caps, h => by simp only [evPtrs, Option.some.injEq] at h; subst h; simp
  | x :: r, caps, h => by
    simp only [evPtrs] at h
    split at h
    · rename_i nm i off hx
      split at h
      · rename_i l hr
        simp only [Option.some.injEq] at h; subst h
        obtain ⟨h1, h2⟩ := evPtrs_ok g hr
        obtain ⟨_, h3, h4⟩ := ev_ok g hx
        refine ⟨by simp [h1, h4], fun c hc => ?_⟩
        rcases List.mem_cons.1 hc with e | e
        · rw [e]; exact h3
        · exact h2 c e
      · cases h
    · cases h
theorem q_makeFunc {f : FuncId} {captured : List Operand} {caps : List (Nat × Nat × Nat)} (hc : evPtrs st captured = some caps) :
    Qt P ty c nt st dst (.makeFunc (.func f) #[] captured.toArray) tp pos after (.v (.one (.fn f caps))) := by
  intro a w L F g
  obtain ⟨h1, h2⟩ := evPtrs_ok g hc
  refine ⟨.func (.func f) #[] (captured.map a.eval).toArray, fun w' _ => ?_, Emp.bot, by rw [h1], h2⟩
  simp [execOp, Instr.makeFunc]
end
end Go.Vm
namespace Go.Vm
open Go

theorem dk {nt d : Nat} (h : Nat.blt d nt = true) : dok nt (some d) := by
  simp [Nat.blt] at h
  exact h
theorem renX_id (x : X) : renX (fun n => n) x = x := by
  cases x <;> simp [renX]
theorem renV_id (v : V) : renV (fun n => n) v = v := by
  cases v with
  | one x => exact congrArg V.one (renX_id x)
  | agg xs => exact congrArg V.agg (map_self fun x _ => renX_id x)
theorem renT_id (t : T) : renT (fun n => n) t = t := by
  cases t with
  | v v => exact congrArg T.v (renV_id v)
  | tup vs => exact congrArg T.tup (map_self fun x _ => renV_id x)
theorem NR.id {k : Nat} {nd : Node} (h : ∀ e, e ∈ nd.es → e.all (belX k) = true) : NR (fun n => n) k nd nd :=
  ⟨rfl, (map_self fun e _ => map_self fun x _ => renX_id x).symm, h⟩
def belN (k : Nat) (nd : Node) : Prop := ∀ e, e ∈ nd.es → e.all (belX k) = true
theorem belN_clo (k sz : Nat) (es : List (List C)) : belN k ⟨sz, clo es⟩ := (NR.clo (fun n => n) k sz es).2.2
theorem belN_nil (k sz : Nat) : belN k ⟨sz, []⟩ := fun _ h => by simp at h
theorem belN_all {k sz : Nat} {es : List (List X)} (h : (es.all fun e => e.all (belX k)) = true) : belN k ⟨sz, es⟩ := fun e he => List.all_eq_true.1 h e he

section
variable {P : Program} {ty : Ty} {c : Ctx} {nt : Nat} {st : St} {Q : Exit → St → Prop}
variable {a : Act} {w : World} {L : Lay} {F : Nat → FP}
variable {ops : Array Oper} {rest : List Oper} {dst : Option Nat} {tp : TypeId} {pos : String} {after : Array Edge}

def nodupB : List Nat → Bool
  | [] => true
  | a :: r => !(r.any (Nat.beq a)) && nodupB r
theorem nodupB_ok : ∀ {l : List Nat}, nodupB l = true → l.Nodup
  | [], _ => .nil
  | a :: r, h => by
    simp only [nodupB, Bool.and_eq_true, Bool.not_eq_true'] at h
    refine List.nodup_cons.2 ⟨fun hm => ?_, nodupB_ok h.2⟩
    have := List.any_eq_false.1 h.1 a hm
    simp at this
/-- what was made since is forgotten -/
theorem Weak.cut (tl : List (Nat × T)) (nl : List (Nat × Node)) (k : Nat) (hk : c.kf ≤ k) (ht : All (fun p => st.tm p.1 = some p.2 ∧ belT k p.2 = true) tl)
    (hn : All (fun p => p.1 < k ∧ st.nd p.1 = some p.2 ∧ belN k p.2) nl) (hd : nodupB (nl.map Prod.fst) = true) : Weak P ty c nt st (mkSt tl nl k) := by
  refine Weak.to (fun n => n) tl nl k hk (fun _ _ => rfl) ?_ ?_ (nodupB_ok hd)
  · clear hn hd
    induction tl with
    | nil => trivial
    | cons p r ih => exact ⟨⟨by rw [renT_id]; exact ht.1.1, ht.1.2⟩, ih ht.2⟩
  · clear ht hd
    induction nl with
    | nil => trivial
    | cons p r ih => exact ⟨⟨hn.1.1, p.2, hn.1.2.1, NR.id hn.1.2.2⟩, ih hn.2⟩

/-! comparisons, both ways -/
theorem vl_two {op : Op} {x : Bool → T} (b : Bool) (q : Qt P ty c nt st dst op tp pos after (x b)) (hd : dok nt dst)
    (kt : b = true → vl P ty c nt ops rest (st.put dst (x true)) Q) (kf : b = false → vl P ty c nt ops rest (st.put dst (x false)) Q) :
    vl P ty c nt ops (⟨dst, op, tp, pos, after, none⟩ :: rest) st Q := by
  cases b with
  | true => exact vl_q q hd (kt rfl)
  | false => exact vl_q q hd (kf rfl)
section
variable {xt yt : TypeId} {x y : Operand} {kd : IntKind} {m n : Int} (hx : ev st x = some (vv (.int kd m))) (hy : ev st y = some (vv (.int kd n))) (hd : dok nt dst)
include hx hy hd
theorem vl_eql (kt : m = n → vl P ty c nt ops rest (st.put dst (vv (.bool true))) Q) (kf : m ≠ n → vl P ty c nt ops rest (st.put dst (vv (.bool false))) Q) :
    vl P ty c nt ops (⟨dst, .binOp .eql xt x y yt, tp, pos, after, none⟩ :: rest) st Q :=
  vl_two (x := fun b => vv (.bool b)) _ (q_cmp hx hy rfl rfl) hd (fun h => kt (of_decide_eq_true h)) (fun h => kf (of_decide_eq_false h))
theorem vl_neq (kt : m ≠ n → vl P ty c nt ops rest (st.put dst (vv (.bool true))) Q) (kf : m = n → vl P ty c nt ops rest (st.put dst (vv (.bool false))) Q) :
    vl P ty c nt ops (⟨dst, .binOp .neq xt x y yt, tp, pos, after, none⟩ :: rest) st Q :=
  vl_two (x := fun b => vv (.bool b)) _ (q_cmp hx hy rfl rfl) hd (fun h => kt (by simpa [cmpv] using h)) (fun h => kf (by simpa [cmpv] using h))
theorem vl_lss (kt : m < n → vl P ty c nt ops rest (st.put dst (vv (.bool true))) Q) (kf : n ≤ m → vl P ty c nt ops rest (st.put dst (vv (.bool false))) Q) :
    vl P ty c nt ops (⟨dst, .binOp .lss xt x y yt, tp, pos, after, none⟩ :: rest) st Q :=
  vl_two (x := fun b => vv (.bool b)) _ (q_cmp hx hy rfl rfl) hd (fun h => kt (of_decide_eq_true h)) (fun h => kf (by have := of_decide_eq_false h; omega))
theorem vl_leq (kt : m ≤ n → vl P ty c nt ops rest (st.put dst (vv (.bool true))) Q) (kf : n < m → vl P ty c nt ops rest (st.put dst (vv (.bool false))) Q) :
    vl P ty c nt ops (⟨dst, .binOp .leq xt x y yt, tp, pos, after, none⟩ :: rest) st Q :=
  vl_two (x := fun b => vv (.bool b)) _ (q_cmp hx hy rfl rfl) hd (fun h => kt (of_decide_eq_true h)) (fun h => kf (by have := of_decide_eq_false h; omega))
theorem vl_gtr (kt : n < m → vl P ty c nt ops rest (st.put dst (vv (.bool true))) Q) (kf : m ≤ n → vl P ty c nt ops rest (st.put dst (vv (.bool false))) Q) :
    vl P ty c nt ops (⟨dst, .binOp .gtr xt x y yt, tp, pos, after, none⟩ :: rest) st Q :=
  vl_two (x := fun b => vv (.bool b)) _ (q_cmp hx hy rfl rfl) hd (fun h => kt (of_decide_eq_true h)) (fun h => kf (by have := of_decide_eq_false h; omega))
theorem vl_geq (kt : n ≤ m → vl P ty c nt ops rest (st.put dst (vv (.bool true))) Q) (kf : m < n → vl P ty c nt ops rest (st.put dst (vv (.bool false))) Q) :
    vl P ty c nt ops (⟨dst, .binOp .geq xt x y yt, tp, pos, after, none⟩ :: rest) st Q :=
  vl_two (x := fun b => vv (.bool b)) _ (q_cmp hx hy rfl rfl) hd (fun h => kt (of_decide_eq_true h)) (fun h => kf (by have := of_decide_eq_false h; omega))
end
section
variable {xt yt : TypeId} {x y : Operand} {m n : ByteArray} (hx : ev st x = some (vv (.string m))) (hy : ev st y = some (vv (.string n))) (hd : dok nt dst)
include hx hy hd
theorem vl_eqlS (kt : m = n → vl P ty c nt ops rest (st.put dst (vv (.bool true))) Q) (kf : m ≠ n → vl P ty c nt ops rest (st.put dst (vv (.bool false))) Q) :
    vl P ty c nt ops (⟨dst, .binOp .eql xt x y yt, tp, pos, after, none⟩ :: rest) st Q :=
  vl_two (x := fun b => vv (.bool b)) _ (q_cmpS hx hy (.inl rfl) rfl) hd (fun h => kt (of_decide_eq_true h)) (fun h => kf (of_decide_eq_false h))
theorem vl_neqS (kt : m ≠ n → vl P ty c nt ops rest (st.put dst (vv (.bool true))) Q) (kf : m = n → vl P ty c nt ops rest (st.put dst (vv (.bool false))) Q) :
    vl P ty c nt ops (⟨dst, .binOp .neq xt x y yt, tp, pos, after, none⟩ :: rest) st Q :=
  vl_two (x := fun b => vv (.bool b)) _ (q_cmpS hx hy (.inr rfl) rfl) hd (fun h => kt (by simpa [seqv] using h)) (fun h => kf (by simpa [seqv] using h))
end
section
variable {xt yt : TypeId} {x y : Operand} {m n : Bool} {d : TyD} (ht : ty xt = some d) (hdesc : d.desc = .bool) (hx : ev st x = some (vv (.bool m))) (hy : ev st y = some (vv (.bool n))) (hd : dok nt dst)
include ht hdesc hx hy hd
theorem vl_eqlB (kt : m = n → vl P ty c nt ops rest (st.put dst (vv (.bool true))) Q) (kf : m ≠ n → vl P ty c nt ops rest (st.put dst (vv (.bool false))) Q) :
    vl P ty c nt ops (⟨dst, .binOp .eql xt x y yt, tp, pos, after, none⟩ :: rest) st Q :=
  vl_two (x := fun b => vv (.bool b)) _ (q_cmpB ht hdesc hx hy (.inl rfl) rfl) hd (fun h => kt (by simpa [beqv] using h)) (fun h => kf (by simpa [beqv] using h))
theorem vl_neqB (kt : m ≠ n → vl P ty c nt ops rest (st.put dst (vv (.bool true))) Q) (kf : m = n → vl P ty c nt ops rest (st.put dst (vv (.bool false))) Q) :
    vl P ty c nt ops (⟨dst, .binOp .neq xt x y yt, tp, pos, after, none⟩ :: rest) st Q :=
  vl_two (x := fun b => vv (.bool b)) _ (q_cmpB ht hdesc hx hy (.inr rfl) rfl) hd (fun h => kt (by simpa [beqv] using h)) (fun h => kf (by simpa [beqv] using h))
end
theorem Weak.lit {d : Nat} {x y : T} (hx : st.tm d = some x) (e : x = y) : Weak P ty c nt st (st.put (some d) y) := by
  subst e
  rintro a w ⟨L, F, g⟩
  refine ⟨L, F, g.congr (fun t => ?_) (fun _ => rfl) rfl⟩
  simp only [St.put]
  by_cases h : t = d
  · subst h; simp [hx]
  · rw [beq_no h]; rfl
/-- a truth that is held, both ways -/
theorem vl_bool (d : Nat) {b : Bool} (hb : st.tm d = some (vv (.bool b))) (kt : b = true → vl P ty c nt ops rest (st.put (some d) (vv (.bool true))) Q) (kf : b = false → vl P ty c nt ops rest (st.put (some d) (vv (.bool false))) Q) : vl P ty c nt ops rest st Q := by
  cases h : b with
  | true => exact vl_weak (Weak.lit hb (by rw [h])) (kt h)
  | false => exact vl_weak (Weak.lit hb (by rw [h])) (kf h)

theorem ret_p {fn : Func} {t : T} {rvs : List ResultVar} {vs : List V} (hrv : fn.results = rvs.toArray) (hres : ResAll P ty c nt st rvs vs) (hb : belT 0 t = true) (ht : tOf vs = t) :
    Ret P ty c nt fn (Gives t [] []) st := by
  have h := ret_just (P := P) (ty := ty) (c := c) (nt := nt) hrv hres hb ht
  intro a w L F g
  obtain ⟨v, r, ns, N', L', F', h1, ⟨rfl, rfl, rfl⟩, h3⟩ := h a w L F g
  exact ⟨v, r, [], noN, L', F', h1, ⟨rfl, rfl, by funext n; rfl⟩, h3⟩

theorem evParts_fst : ∀ {l : List (Nat × Operand)} {pv : List (Nat × V)}, evParts st l = some pv → pv.map Prod.fst = l.map Prod.fst
  | [], pv, h => by simp only [evParts, Option.some.injEq] at h; subst h; rfl
  | (i, x) :: r, pv, h => by
    simp only [evParts] at h
    split at h
    · split at h
      · rename_i l' hr
        simp only [Option.some.injEq] at h
        subst h
        simp [evParts_fst hr]
      · cases h
    · cases h
theorem pv_zip : ∀ (pv : List (Nat × V)) (n : Nat), pv.map Prod.fst = List.range' n pv.length → pv = ((pv.map Prod.snd).zipIdx n).map fun p => (p.2, p.1)
  | [], _, _ => rfl
  | (i, v) :: r, n, h => by
    simp only [List.map_cons, List.length_cons, List.range'_succ, List.cons.injEq] at h
    simp only [List.map_cons, List.zipIdx_cons, List.cons.injEq]
    exact ⟨by rw [h.1], pv_zip r (n + 1) h.2⟩
theorem vl_bslice {t el : TypeId} {n : Nat} {d de : TyD} {parts : List (Nat × Operand)} {pv : List (Nat × V)} (ht : ty t = some d) (hdesc : d.desc = .slice el) (hel : ty el = some de)
    (hp : evParts st parts = some pv) (hix : pv.map Prod.fst = List.range' 0 pv.length) (hn : n = pv.length) (hw : All (fun v => v.cells.length = de.size) (pv.map Prod.snd)) (hz : de.size ≠ 0) (hb : n * de.size ≤ 16777216) (hd : dok nt dst)
    (k : vl P ty c nt ops rest ((st.add ⟨de.size, (pv.map Prod.snd).map V.cells⟩).put dst (.v (.one (.hdr st.k 0 n)))) Q) :
    vl P ty c nt ops (⟨dst, .buildSlice t n parts.toArray, tp, pos, after, none⟩ :: rest) st Q :=
  vl_buildSlice ht hdesc hel (by rw [hp, ← pv_zip pv 0 hix]) (by simpa using hn) (fun v hv => hw.mem v hv) hz hb hd k
theorem va_two {fuel : Nat} {listed : Array Bool} (i : Nat) {op : Op} {x : Bool → T} (b : Bool) (hi : ops[i]? = some ⟨dst, op, tp, pos, after, none⟩) (hs : Region.noSelect ops = true) (hf : Region.free .any ops listed i = true)
    (hr : (Region.ready .any ops listed).contains i = true) (q : Qt P ty c nt st dst op tp pos after (x b)) (hd : dok nt dst)
    (kt : b = true → va P ty c nt ops fuel (listed.setIfInBounds i true) (st.put dst (x true)) Q) (kf : b = false → va P ty c nt ops fuel (listed.setIfInBounds i true) (st.put dst (x false)) Q) :
    va P ty c nt ops (fuel + 1) listed st Q := by
  cases b with
  | true => exact va_q i hi hs hf hr q hd (kt rfl)
  | false => exact va_q i hi hs hf hr q hd (kf rfl)
theorem va_bool {fuel : Nat} {listed : Array Bool} (d : Nat) {b : Bool} (hb : st.tm d = some (vv (.bool b))) (kt : b = true → va P ty c nt ops fuel listed (st.put (some d) (vv (.bool true))) Q)
    (kf : b = false → va P ty c nt ops fuel listed (st.put (some d) (vv (.bool false))) Q) : va P ty c nt ops fuel listed st Q := by
  cases h : b with
  | true => exact va_weak (Weak.lit hb (by rw [h])) (kt h)
  | false => exact va_weak (Weak.lit hb (by rw [h])) (kf h)
end
theorem eql_of {m n : Int} (h : cmpv .eql m n = true) : m = n := of_decide_eq_true h
theorem eql_nof {m n : Int} (h : cmpv .eql m n = false) : m ≠ n := of_decide_eq_false h
theorem neq_of {m n : Int} (h : cmpv .neq m n = true) : m ≠ n := by simpa [cmpv] using h
theorem neq_nof {m n : Int} (h : cmpv .neq m n = false) : m = n := by simpa [cmpv] using h
theorem lss_of {m n : Int} (h : cmpv .lss m n = true) : m < n := of_decide_eq_true h
theorem lss_nof {m n : Int} (h : cmpv .lss m n = false) : n ≤ m := by have := of_decide_eq_false h; omega
theorem leq_of {m n : Int} (h : cmpv .leq m n = true) : m ≤ n := of_decide_eq_true h
theorem leq_nof {m n : Int} (h : cmpv .leq m n = false) : n < m := by have := of_decide_eq_false h; omega
theorem gtr_of {m n : Int} (h : cmpv .gtr m n = true) : n < m := of_decide_eq_true h
theorem gtr_nof {m n : Int} (h : cmpv .gtr m n = false) : m ≤ n := by have := of_decide_eq_false h; omega
theorem geq_of {m n : Int} (h : cmpv .geq m n = true) : n ≤ m := of_decide_eq_true h
theorem geq_nof {m n : Int} (h : cmpv .geq m n = false) : m < n := by have := of_decide_eq_false h; omega
theorem eqlS_of {m n : ByteArray} (h : seqv .eql m n = true) : m = n := of_decide_eq_true h
theorem eqlS_nof {m n : ByteArray} (h : seqv .eql m n = false) : m ≠ n := of_decide_eq_false h
theorem neqS_of {m n : ByteArray} (h : seqv .neq m n = true) : m ≠ n := by simpa [seqv] using h
theorem neqS_nof {m n : ByteArray} (h : seqv .neq m n = false) : m = n := by simpa [seqv] using h
theorem eqlB_of {m n : Bool} (h : beqv .eql m n = true) : m = n := by simpa [beqv] using h
theorem eqlB_nof {m n : Bool} (h : beqv .eql m n = false) : m ≠ n := by simpa [beqv] using h
theorem neqB_of {m n : Bool} (h : beqv .neq m n = true) : m ≠ n := by simpa [beqv] using h
theorem neqB_nof {m n : Bool} (h : beqv .neq m n = false) : m = n := by simpa [beqv] using h
theorem get_map {α β : Type} {f : α → β} {l : List α} {i : Nat} (h : i < l.length) : (l.map f)[i]? = some (f l[i]) := by
  rw [List.getElem?_map, List.getElem?_eq_getElem h]; rfl
end Go.Vm
namespace Go.Vm
open Go

/-- what a measure leaves: of n, after a bulk of b -/
def szv (b : Nat) (n : Int) : Int := if (b : Int) ≤ n then n - b else -1
theorem szv_ge {b : Nat} {n : Int} (h : (b : Int) ≤ n) : szv b n = n - b := if_pos h
theorem szv_lt {b : Nat} {n : Int} (h : n < (b : Int)) : szv b n = -1 := if_neg (by omega)
theorem szv_neg {b : Nat} {n : Int} (h : szv b n < 0) (_h0 : 0 ≤ n) : n < (b : Int) := by
  unfold szv at h; split at h <;> omega
theorem szv_nneg {b : Nat} {n : Int} (h : 0 ≤ szv b n) : (b : Int) ≤ n := by
  unfold szv at h; split at h <;> omega
def sumTo {α : Type} (f : α → Nat) (l : List α) (i : Nat) : Nat := ((l.take i).map f).sum
def sumOf {α : Type} (f : α → Nat) (l : List α) : Nat := (l.map f).sum
theorem sumTo_zero {α : Type} (f : α → Nat) (l : List α) : sumTo f l 0 = 0 := rfl
theorem sumTo_succ {α : Type} (f : α → Nat) (l : List α) {i : Nat} (h : i < l.length) : sumTo f l (i + 1) = sumTo f l i + f l[i] := by
  unfold sumTo
  rw [List.take_add_one, List.getElem?_eq_getElem h, Option.toList_some, List.map_append, List.sum_append]; simp
theorem sumTo_full {α : Type} (f : α → Nat) (l : List α) {i : Nat} (h : l.length ≤ i) : sumTo f l i = sumOf f l := by
  unfold sumTo sumOf; rw [List.take_of_length_le h]
theorem sumTo_le {α : Type} (f : α → Nat) (l : List α) (i : Nat) : sumTo f l i ≤ sumOf f l := by
  unfold sumTo sumOf
  conv => rhs; rw [← List.take_append_drop i l, List.map_append, List.sum_append]
  omega
/-- texts and truths as cells -/
def strC (s : ByteArray) : List C := [.val (.string s)]
def boolC (b : Bool) : List C := [.val (.bool b)]
def intC (n : Int) : List C := [.val (.int .i64 n)]
theorem take_all {α : Type} [DecidableEq α] {a b : List α} {i : Nat} (h : a.take i = b.take i) (ha : a.length ≤ i) (hb : b.length ≤ i) : a = b := by
  rwa [List.take_of_length_le ha, List.take_of_length_le hb] at h
theorem take_succ_eq {α : Type} {a b : List α} {i : Nat} (h : a.take i = b.take i) (ha : i < a.length) (hb : i < b.length) (he : a[i] = b[i]) : a.take (i + 1) = b.take (i + 1) := by
  rw [List.take_add_one, List.take_add_one, h, List.getElem?_eq_getElem ha, List.getElem?_eq_getElem hb, he]
theorem ne_of_get {α : Type} {a b : List α} {i : Nat} (ha : i < a.length) (hb : i < b.length) (he : a[i] ≠ b[i]) : a ≠ b := fun e => by subst e; exact he rfl
theorem ne_of_len {α : Type} {a b : List α} (h : (a.length : Int) ≠ b.length) : a ≠ b := fun e => h (by rw [e])
section
variable {P : Program} {ty : Ty} {c : Ctx} {nt : Nat} {st : St} {ins : List Nat}
def XOkL (P : Program) (ty : Ty) (c : Ctx) (nt : Nat) (st : St) (ins : List Nat) : List X → List X → Prop
  | [], [] => True
  | x :: l, x' :: l' => XOk P ty c nt st ins x x' ∧ XOkL P ty c nt st ins l l'
  | _, _ => False
theorem XOkL.ok : ∀ {l l' : List X}, XOkL P ty c nt st ins l l' → l.length = l'.length ∧ ∀ (j : Nat) x x', l[j]? = some x → l'[j]? = some x' → XOk P ty c nt st ins x x'
  | [], [], _ => ⟨rfl, fun j x x' h => by simp at h⟩
  | x :: l, x' :: l', h => by
    obtain ⟨h1, h2⟩ := XOkL.ok h.2
    refine ⟨congrArg (· + 1) h1, fun j y y' hy hy' => ?_⟩
    cases j with
    | zero => simp at hy hy'; subst hy; subst hy'; exact h.1
    | succ j => simp only [List.getElem?_cons_succ] at hy hy'; exact h2 j y y' hy hy'
  | [], _ :: _, h => h.elim
  | _ :: _, [], h => h.elim
theorem VOk.agg {xs xs' : List X} (h : XOkL P ty c nt st ins xs xs') : VOk P ty c nt st ins (.agg xs) (.agg xs') := h.ok
end
end Go.Vm
namespace Go.Vm
open Go

/-- the first i elements are told, the others are still z -/
def upto {α : Type} (f : α → List C) (z : List C) (l : List α) (i : Nat) : List (List C) := (l.take i).map f ++ List.replicate (l.length - i) z
theorem upto_len {α : Type} (f : α → List C) (z : List C) (l : List α) {i : Nat} (h : i ≤ l.length) : (upto f z l i).length = l.length := by
  simp [upto, List.length_take]; omega
theorem upto_zero {α : Type} (f : α → List C) (z : List C) (l : List α) : List.replicate l.length (z.map X.c) = clo (upto f z l 0) := by
  simp [upto, clo]
theorem upto_full {α : Type} (f : α → List C) (z : List C) (l : List α) {i : Nat} (h : l.length ≤ i) : upto f z l i = l.map f := by
  simp [upto, List.take_of_length_le h, Nat.sub_eq_zero_of_le h]
theorem upto_get {α : Type} (f : α → List C) (z : List C) (l : List α) {i : Nat} (h : i < l.length) : (clo (upto f z l i))[i]? = some (z.map X.c) := by
  unfold upto clo
  have : ((l.take i).map f).length = i := by simp; omega
  rw [List.getElem?_map, List.getElem?_append_right (by rw [this]; exact Nat.le_refl _), this, Nat.sub_self, List.getElem?_replicate, if_pos (by omega)]; rfl
theorem upto_set {α : Type} (f : α → List C) (z : List C) (l : List α) {i : Nat} (h : i < l.length) : (clo (upto f z l i)).set i ((f l[i]).map X.c) = clo (upto f z l (i + 1)) := by
  unfold upto clo
  have hl : ((l.take i).map f).length = i := by simp; omega
  rw [List.map_append, List.map_append, List.set_append_right _ _ (by simp; omega)]
  rw [show i - (List.map (fun e => List.map X.c e) ((l.take i).map f)).length = 0 by simp; omega]
  rw [show l.length - i = (l.length - (i + 1)) + 1 by omega, List.replicate_succ, List.map_cons, List.set_cons_zero]
  rw [List.take_add_one, List.getElem?_eq_getElem h, Option.toList_some, List.map_append, List.map_append]
  simp
theorem upto_wid {α : Type} {f : α → List C} {z : List C} {l : List α} {i sz : Nat} (hf : ∀ x, (f x).length = sz) (hz : z.length = sz) : ∀ e, e ∈ upto f z l i → e.length = sz := by
  intro e he
  unfold upto at he
  rcases List.mem_append.1 he with h | h
  · obtain ⟨x, _, rfl⟩ := List.mem_map.1 h; exact hf x
  · rw [List.eq_of_mem_replicate h]; exact hz
theorem nsN_map {α : Type} {f : α → List C} {sz : Nat} {l : List α} (h : ∀ x, (f x).all C.noSh = true) : nsN ⟨sz, clo (l.map f)⟩ :=
  nsN_clo fun e he => by obtain ⟨x, _, rfl⟩ := List.mem_map.1 he; exact h x
theorem strC_noSh (s : ByteArray) : (strC s).all C.noSh = true := by simp [strC, C.noSh_val]
theorem boolC_noSh (b : Bool) : (boolC b).all C.noSh = true := by simp [boolC, C.noSh_val]
theorem intC_noSh (n : Int) : (intC n).all C.noSh = true := by simp [intC, C.noSh_val]
theorem set_get {α : Type} {l : List α} {i : Nat} {e : α} (h : i < l.length) : (l.set i e)[i]? = some e := by simp [h]

def NL (st : St) (σ : Nat → Nat) (k : Nat) : List Nat → List Node → Prop
  | [], [] => True
  | m :: ms, nd' :: l => (∃ nd, st.nd m = some nd ∧ NR σ k nd nd') ∧ NL st σ k ms l
  | _, _ => False
theorem NL.len {st : St} {σ : Nat → Nat} {k : Nat} : ∀ {l : List Nat} {l' : List Node}, NL st σ k l l' → l.length = l'.length
  | [], [], _ => rfl
  | _ :: _, _ :: _, h => congrArg (· + 1) h.2.len
  | [], _ :: _, h => h.elim
  | _ :: _, [], h => h.elim
theorem NL.get {st : St} {σ : Nat → Nat} {k : Nat} : ∀ {l : List Nat} {l' : List Node}, NL st σ k l l' → ∀ (i : Nat) m nd', l[i]? = some m → l'[i]? = some nd' → ∃ nd, st.nd m = some nd ∧ NR σ k nd nd'
  | [], [], _, i, m, nd', h, _ => by simp at h
  | _ :: _, _ :: _, h, 0, m, nd', h1, h2 => by simp at h1 h2; subst h1; subst h2; exact h.1
  | _ :: _, _ :: _, h, i + 1, m, nd', h1, h2 => by simp only [List.getElem?_cons_succ] at h1 h2; exact h.2.get i m nd' h1 h2
  | [], _ :: _, h, _, _, _, _, _ => h.elim
  | _ :: _, [], h, _, _, _, _, _ => h.elim

section
variable {P : Program} {ty : Ty} {c : Ctx} {nt : Nat} {st : St}
/-- results over new arrays (names), the arrays handed in being what N' tells -/
theorem ret_g {fn : Func} {t : T} {ns N' : List Node} {rvs : List ResultVar} {vs : List V} (names : List Nat) (hrv : fn.results = rvs.toArray) (hres : ResAll P ty c nt st rvs vs)
    (hr : tOf vs = renT (sgm names) t) (hb : belT (16 + ns.length) t = true) (hnd : names.Nodup) (h16 : All (fun n => 16 ≤ n) names)
    (hns : NL st (sgm names) (16 + ns.length) names ns) (hN : NL st (sgm names) (16 + ns.length) (List.range N'.length) N') (hle : N'.length ≤ 16) : Ret P ty c nt fn (Gives t ns N') st := by
  refine ret_rule names t ns (fun n => N'[n]?) hrv hres hr hb hns.len hnd (fun n hn => h16.mem n hn) hns.get (fun n nd' h => ?_) ⟨rfl, rfl, rfl⟩
  have hlt : n < N'.length := lt_of_get h
  exact ⟨by omega, hN.get n n nd' (by simp [hlt]) h⟩
/-- the node is told in other words -/
theorem Weak.node {m : Nat} {nd nd' : Node} (h : st.nd m = some nd) (e : nd = nd') : Weak P ty c nt st (st.setN m (some nd')) := by
  subst e
  rintro a w ⟨L, F, g⟩
  refine ⟨L, F, g.congr (fun _ => rfl) (fun n => ?_) rfl⟩
  simp only [St.setN]
  by_cases hn : n = m
  · subst hn; simp [h]
  · rw [beq_no hn]; rfl
theorem some_node {sz : Nat} {es es' : List (List X)} (h : es = es') : some (⟨sz, es⟩ : Node) = some ⟨sz, es'⟩ := by rw [h]
end
section
variable {P : Program} {ty : Ty} {c : Ctx} {nt : Nat} {st : St} {Q : Exit → St → Prop}
variable {ops : Array Oper} {rest : List Oper} {dst : Option Nat} {tp : TypeId} {pos : String} {after : Array Edge}
/-- the state behind a call: the nodes handed in are N', the new ones ns -/
def callS (st : St) (ins : List Nat) (N' ns : List Node) : St :=
  { tm := st.tm, k := st.k + ns.length,
    nd := fun n => bif Nat.blt n st.k then (match pos? ins n 0 with | some i => N'[i]? | none => st.nd n) else ns[n - st.k]? }
def Fix (n : Node) : Prop := ∀ τ, renN τ n = n
theorem fix_clo (sz : Nat) (es : List (List C)) : Fix ⟨sz, clo es⟩ := fun τ => renN_clo τ sz es
theorem map_fix {l : List Node} (h : All Fix l) (τ : Nat → Nat) (i : Nat) : (l[i]?).map (renN τ) = l[i]? := by
  cases hl : l[i]? with
  | none => rfl
  | some n => exact congrArg some (h.mem n (List.mem_of_getElem? hl) τ)
/-- a call whose arrays are closed -/
theorem vl_callG {x : Operand} {args : List Operand} {ats : Array TypeId} {f : FuncId} {caps : List (Nat × Nat × Nat)} {cvs vs : List V} {t : T} {ns N' : List Node} (ins : List Nat) {N : List Node} (t' : T)
    (hC : Ctr P ty f vs N (Gives t ns N')) (hx : ev st x = some (.v (.one (.fn f caps)))) (hcv : evAll st args = some cvs)
    (hvs : VOkL P ty c nt st ins (cvs ++ capV caps) vs) (hi : InsL st (insσ ins) ins N) (hnd : nodupB ins = true) (hle : ins.length ≤ 16) (hn : All Fix ns) (hN : All Fix N') (ht : renT (callτ ins st.k) t = t') (hz : c.nf = false ∨ (nzT t = true ∧ All nzN ns ∧ All nzN N')) (hd : dok nt dst)
    (k : vl P ty c nt ops rest ((callS st ins N' ns).put dst t') Q) :
    vl P ty c nt ops (⟨dst, .call ⟨.value x, args.toArray, ats⟩, tp, pos, after, none⟩ :: rest) st Q := by
  refine vl_callC ins hC hx hcv hvs hi (nodupB_ok hnd) hle (hz.imp id fun h => nzK_gives h.1 h.2.1 h.2.2) hd ?_
  rintro r ns' M ⟨rfl, rfl, rfl⟩
  have hst : callSt st ins (fun n => N'[n]?) ns' = callS st ins N' ns' := by
    simp only [callSt, callS]
    congr 1
    funext n
    cases Nat.blt n st.k with
    | true =>
      simp only [cond_true]
      cases pos? ins n 0 with
      | none => rfl
      | some i => exact map_fix hN _ i
    | false => exact map_fix hn _ _
  rw [hst, ht]
  exact k
end
end Go.Vm
namespace Go.Vm
open Go

def bstr (ns : List Int) : ByteArray := ns.foldl (fun r n => r.push (UInt8.ofNat n.toNat)) ByteArray.empty
def byteX (n : Int) : List X := [X.c (C.val (.int .u8 n))]

section
variable {P : Program} {ty : Ty} {c : Ctx} {nt : Nat} {st : St} {Q : Exit → St → Prop}
variable {a : Act} {w : World} {L : Lay} {F : Nat → FP}
variable {ops : Array Oper} {rest : List Oper} {dst : Option Nat} {tp : TypeId} {pos : String} {after : Array Edge}

theorem news_bytes {Z : Zn} {k : Nat} : ∀ (ns : List Int) (news : List Value), news.length = ns.length →
    (∀ (p : Nat) y u, (ns.map byteX).flatten[p]? = some y → news[p]? = some u → XR w L Z k y u bot) → news = ns.map (Value.int .u8)
  | [], news, hl, _ => List.eq_nil_of_length_eq_zero hl
  | n :: ns, news, hl, h => by
    cases news with
    | nil => simp at hl
    | cons u us =>
      have h0 := h 0 (X.c (C.val (.int .u8 n))) u (by simp [byteX]) rfl
      have hu : u = .int .u8 n := by cases h0; rfl
      rw [hu, List.map_cons, news_bytes ns us (by simpa using hl) fun p y v hy hv => h (p + 1) y v (by simpa [byteX] using hy) (by simpa using hv)]

theorem vl_bytesStr {s d e : TypeId} {x : Operand} {ns : List Int} {ds dd de : TyD} (hs : ty s = some ds) (hsd : ds.desc = .slice e) (hd : ty d = some dd) (hdd : dd.desc = .string) (he : ty e = some de) (hed : de.desc = .int .u8)
    (hsrc : Src P ty c nt st x 1 (ns.map byteX)) (hv : ∀ a w L F, GX P ty c nt st a w L F → ∃ A cap, a.eval x = .slice A ns.length cap ∧ (A = none → ns = [])) (hdk : dok nt dst)
    (k : vl P ty c nt ops rest (st.put dst (vv (.string (bstr ns)))) Q) : vl P ty c nt ops (⟨dst, .convert s d x, tp, pos, after, none⟩ :: rest) st Q := by
  refine vl_val st _ hdk (fun a w L F g => ?_) k
  obtain ⟨_, hsr⟩ := hsrc
  obtain ⟨news, hlx, hfx, hln, _, hpt⟩ := hsr a w L F g
  obtain ⟨A, cap, hev, hA⟩ := hv a w L F g
  have hln' : news.length = ns.length := by rw [hln, List.length_map, Nat.mul_one]
  have hnews := news_bytes ns news hln' hpt
  refine ⟨.string (bstr ns), w, L, F, ?_, g, vv_TR rfl⟩
  have hconv := run_convert_bytes_string (P := P) w s d e A ns.length cap (by rw [← hsd]; exact (g.tyok s ds hs).1) (by rw [← hed]; exact (g.tyok e de he).1) (by rw [← hdd]; exact (g.tyok d dd hd).1)
  simp only [execOp, hev, Sem.run_bind, hconv]
  cases A with
  | none =>
    rw [hA rfl]
    simp [Conv.bytesToString, bstr]
  | some A =>
    have hf := hfx w (.inl rfl)
    rw [hev, List.length_map] at hf
    have hload : (loadCells A ns.length).run P w = .ok (ns.map (Value.int .u8)).toArray w := by
      rw [← hnews, ← hf]
      simp [Builtin.firstCells]
    rw [run_bytesToString w A ns.length cap ns hload]; rfl
theorem hdr_shape {x : Operand} {nm lo n : Nat} (hx : ev st x = some (.v (.one (.hdr nm lo n)))) {ns : List Int} (hn : n = ns.length) :
    ∀ a w L F, GX P ty c nt st a w L F → ∃ A cap, a.eval x = .slice A ns.length cap ∧ (A = none → ns = []) := fun a w L F g => by
  subst hn
  obtain ⟨_, hk, hle, A, hv, hA⟩ := ev_ok g hx
  refine ⟨A, _, hv, fun h0 => ?_⟩
  rcases Nat.eq_zero_or_pos ns.length with h | h
  · exact List.eq_nil_of_length_eq_zero h
  · rw [hA (by omega)] at h0; cases h0
end
theorem bytes_plain (ns : List Int) : ∀ e, e ∈ ns.map byteX → e.all plainX = true := fun e he => by
  obtain ⟨n, _, rfl⟩ := List.mem_map.1 he; rfl
theorem bytes_wid (ns : List Int) : ∀ e, e ∈ ns.map byteX → e.length = 1 := fun e he => by
  obtain ⟨n, _, rfl⟩ := List.mem_map.1 he; rfl
theorem bstr_size1 (n : Int) : (bstr [n]).size = 1 := rfl
/-- the digits of k ahead of acc -/
def digs (k : Nat) (acc : ByteArray) : ByteArray := if h : k = 0 then acc else digs (k / 10) (bstr [48 + (k : Int) % 10] ++ acc)
termination_by k
decreasing_by omega
theorem digs_zero (acc : ByteArray) : digs 0 acc = acc := by rw [digs]; simp
theorem digs_pos {k : Nat} (h : k ≠ 0) (acc : ByteArray) : digs k acc = digs (k / 10) (bstr [48 + (k : Int) % 10] ++ acc) := by
  conv => lhs; rw [digs]
  rw [dif_neg h]
/-- the text of a mark -/
def mtext (k : Int) : ByteArray := if k ≤ 0 then ⟨#[109, 48]⟩ else ⟨#[109]⟩ ++ digs k.toNat ⟨#[]⟩
end Go.Vm
namespace Go.Vm
open Go

def over {α : Type} (new old : List α) (i : Nat) : List α := new.take i ++ old.drop i
theorem over_zero {α : Type} (new old : List α) : over new old 0 = old := by simp [over]
theorem over_full {α : Type} {new old : List α} (hl : new.length = old.length) {i : Nat} (h : old.length ≤ i) : over new old i = new := by
  simp [over, List.take_of_length_le (by omega : new.length ≤ i), List.drop_eq_nil_of_le h]
theorem over_len {α : Type} {new old : List α} (hl : new.length = old.length) (i : Nat) : (over new old i).length = old.length := by
  simp [over]; omega
theorem over_at {α : Type} {new old : List α} (hl : new.length = old.length) {i : Nat} (h : i < old.length) : (over new old i)[i]? = some old[i] := by
  unfold over
  have hl1 : (new.take i).length = i := by simp; omega
  rw [List.getElem?_append_right (by omega), hl1, Nat.sub_self, List.getElem?_drop, Nat.add_zero]
  exact List.getElem?_eq_getElem h
theorem over_get {α : Type} (f : α → List C) {new old : List α} (hl : new.length = old.length) {i : Nat} (h : i < old.length) : (clo ((over new old i).map f))[i]? = some ((f old[i]).map X.c) := by
  simp only [clo, List.getElem?_map, over_at hl h, Option.map_some]
theorem over_set {α : Type} (f : α → List C) {new old : List α} (hl : new.length = old.length) {i : Nat} (h : i < old.length) {x : α} (hx : new[i]? = some x) {e : List X} (he : e = (f x).map X.c) :
    (clo ((over new old i).map f)).set i e = clo ((over new old (i + 1)).map f) := by
  subst he
  have hi : i < new.length := by omega
  have hxi : new[i] = x := by rw [List.getElem?_eq_getElem hi] at hx; exact Option.some.inj hx
  unfold over clo
  have hl1 : (new.take i).length = i := by simp; omega
  rw [List.drop_eq_getElem_cons h, List.map_append, List.map_append, List.set_append_right _ _ (by simp; omega)]
  rw [show i - ((new.take i).map f |>.map fun e => List.map X.c e).length = 0 by simp; omega]
  rw [List.take_add_one, List.getElem?_eq_getElem hi, hxi, Option.toList_some, List.map_cons, List.map_cons, List.set_cons_zero]
  simp
/-- marks -/
def mkB (k : Int) (n : Nat) : List Bool := (List.range n).map fun j : Nat => decide ((k + (j : Int)) % 3 = 0)
def mkS (k : Int) (n : Nat) : List ByteArray := (List.range n).map fun j : Nat => mtext (k + (j : Int))
theorem mkB_len (k : Int) (n : Nat) : (mkB k n).length = n := by simp [mkB]
theorem mkS_len (k : Int) (n : Nat) : (mkS k n).length = n := by simp [mkS]
theorem mkB_at (k : Int) {n i : Nat} (h : i < n) : (mkB k n)[i]? = some (decide ((k + i) % 3 = 0)) := by simp [mkB, h]
theorem mkS_at (k : Int) {n i : Nat} (h : i < n) : (mkS k n)[i]? = some (mtext (k + i)) := by simp [mkS, h]
theorem iv_eq {m n : Int} (h : m = n) : (some (T.v (iv m)) : Option T) = some (T.v (iv n)) := by rw [h]
theorem sv_eq {m n : ByteArray} (h : m = n) : (some (T.v (sv m)) : Option T) = some (T.v (sv n)) := by rw [h]
theorem take_succ_at {α : Type} {a b : List α} {i : Nat} {x : α} (h : a.take i = b.take i) (ha : i < a.length) (hb : b[i]? = some x) (he : a[i] = x) : a.take (i + 1) = b.take (i + 1) := by
  have hi := lt_of_get hb
  rw [List.getElem?_eq_getElem hi] at hb
  exact take_succ_eq h ha hi (by rw [he]; exact (Option.some.inj hb).symm)
theorem ne_of_at {α : Type} {a b : List α} {i : Nat} {x : α} (ha : i < a.length) (hb : b[i]? = some x) (he : a[i] ≠ x) : a ≠ b := by
  intro e; subst e
  rw [List.getElem?_eq_getElem ha] at hb
  exact he (Option.some.inj hb)
/-- what is held of marks: k behind them, or -1 -/
def heldv (b : Bool) (k : Int) : Int := if b then k else -1
theorem heldv_t {b : Bool} (h : b = true) (k : Int) : heldv b k = k := by rw [h]; rfl
theorem heldv_f {b : Bool} (h : b = false) (k : Int) : heldv b k = -1 := by rw [h]; rfl
theorem heldv_neg {b : Bool} {k : Int} (h : heldv b k < 0) (h0 : 0 ≤ k) : b = false := by
  cases b with
  | true => simp [heldv] at h; omega
  | false => rfl
theorem heldv_nneg {b : Bool} {k : Int} (h : 0 ≤ heldv b k) : b = true := by
  cases b with
  | true => rfl
  | false => simp [heldv] at h
end Go.Vm
namespace Go.Vm
open Go

def Imp (x x' : X) : Prop := ∀ w L Z k v f, XR w L Z k x v f → XR w L Z k x' v f
theorem Imp.refl (x : X) : Imp x x := fun _ _ _ _ _ _ h => h
theorem Imp.nil (sz : Nat) : Imp (.c (.val (.slice none 0 0))) (.c (.own sz [])) := fun _ _ _ _ v f h => by
  cases h with
  | val _ _ h1 hf => exact .nil sz none f hf
theorem Imp.nilF (sz : Nat) : Imp (.c (.val (.slice none 0 0))) (.c (.fz sz [])) := fun _ _ _ _ v f h => by
  cases h with
  | val _ _ h1 hf => exact .ice sz [] none 0 f (fun _ => .bool true) hf (by simp) (by simp) (by simp) (by simp) (by simp)
theorem Imp.nilS (sz : Nat) : Imp (.c (.val (.slice none 0 0))) (.c (.sh sz [])) := fun _ _ _ _ v f h => by
  cases h with
  | val _ _ h1 hf => exact .sh sz [] none 0 f (fun _ => .bool true) hf (by simp) (by simp) (by simp) (by simp) (by simp)
theorem Imp.any {x : X} (hp : plainX x = true) : Imp x (.c .any) := fun w L Z k v f h => by
  have h1 := h.one
  cases x with
  | c cc =>
    cases h with
    | val _ _ _ hf => exact .any v f h1 hf
    | any _ _ _ hf => exact .any v f h1 hf
    | nil => simp [plainX] at hp
    | own => simp [plainX] at hp
    | sh _ _ _ _ _ _ hf => exact .any _ f rfl hf
    | ice _ _ _ _ _ _ hf => exact .any _ f rfl hf
  | hdr nm lo n => exact .any v f h1 h.1
  | ptr nm i off => exact .any v f h1 h.1
  | sp cs => exact .any v f h1 h.1
  | fn q caps => exact .any v f h1 h.1

section
variable {P : Program} {ty : Ty} {c : Ctx} {nt : Nat} {st : St}
variable {a : Act} {w : World} {L : Lay} {F : Nat → FP}
theorem NodeR.tell {Z : Zn} {k nm : Nat} {nd : Node} {f : FP} (h : NodeR w L Z k nm nd f) {es' : List (List X)} (hl : es'.length = nd.es.length) (hw : ∀ e, e ∈ es' → e.length = nd.sz)
    (hp : ∀ (p : Nat) x x', nd.es.flatten[p]? = some x → es'.flatten[p]? = some x' → Imp x x') : NodeR w L Z k nm ⟨nd.sz, es'⟩ f := by
  obtain ⟨g, vals, c1, c2, c3, c4, c5, c6⟩ := h.ex
  have hfl : es'.flatten.length = nd.es.flatten.length := by rw [flatten_length_of_wid hw, h.flen, hl]
  have hget : ∀ (p : Nat) x', es'.flatten[p]? = some x' → ∃ x, nd.es.flatten[p]? = some x := fun p x' hx => by
    have := lt_of_get hx
    exact ⟨_, List.getElem?_eq_getElem (by omega)⟩
  refine ⟨h.sz, h.spot, h.lim, by simpa [hl] using h.len, hw, h.row, g, vals, fun p x' hx => ?_, fun p x' hx => ?_, fun p hpl => c3 p (by simpa [hfl] using hpl), c4, c5, c6⟩
  · obtain ⟨x, h1⟩ := hget p x' hx; exact c1 p x h1
  · obtain ⟨x, h1⟩ := hget p x' hx; exact hp p x x' h1 hx _ _ _ _ _ _ (c2 p x h1)
theorem GX.tell (h : GX P ty c nt st a w L F) {m : Nat} {nd : Node} (hm : st.nd m = some nd) {es' : List (List X)} (hl : es'.length = nd.es.length) (hw : ∀ e, e ∈ es' → e.length = nd.sz)
    (hp : ∀ (p : Nat) x x', nd.es.flatten[p]? = some x → es'.flatten[p]? = some x' → Imp x x') : GX P ty c nt (st.setN m (some ⟨nd.sz, es'⟩)) a w L F := by
  refine ⟨h.tyok, h.defers, h.size, h.lay, ⟨fun n nd' hn => ?_, fun n hn => ?_, h.sa.dis, h.sa.disZ, h.sa.lt⟩, h.zle, h.znew, h.zfnew, h.zlt, h.znf, h.tm, h.scope, h.fr, h.kf, h.ok⟩
  · simp only [St.setN] at hn ⊢
    by_cases hc : n = m
    · subst hc; simp at hn; subst hn
      obtain ⟨h1, h2⟩ := h.sa.node n nd hm
      exact ⟨h1, h2.tell hl hw hp⟩
    · rw [beq_no hc] at hn; exact h.sa.node n nd' hn
  · simp only [St.setN] at hn
    by_cases hc : n = m
    · subst hc; simp at hn
    · rw [beq_no hc] at hn; exact h.sa.none n hn
theorem Weak.tell1 {m i j : Nat} {nd : Node} {e : List X} {x x' : X} (hm : st.nd m = some nd) (hi : nd.es[i]? = some e) (hj : e[j]? = some x) (hx : Imp x x') (hw : ∀ e, e ∈ nd.es → e.length = nd.sz) :
    Weak P ty c nt st (st.setN m (some ⟨nd.sz, nd.es.set i (e.set j x')⟩)) := by
  rintro a w ⟨L, F, g⟩
  have hwe := hw e (List.mem_of_getElem? hi)
  have hel : (e.set j x').length = nd.sz := by rw [List.length_set]; exact hwe
  have hjl : j < nd.sz := by rw [← hwe]; exact lt_of_get hj
  refine ⟨L, F, g.tell hm (by simp) (set_length_flatten hw hel) fun p y y' hy hy' => ?_⟩
  rw [flatten_set hw hi hel p] at hy'
  by_cases hq : i * nd.sz ≤ p ∧ p < i * nd.sz + nd.sz
  · rw [if_pos hq, List.getElem?_set] at hy'
    have hg := flatten_get hw hi (j := p - i * nd.sz) (by omega)
    rw [show i * nd.sz + (p - i * nd.sz) = p by omega, hy] at hg
    by_cases he : j = p - i * nd.sz
    · rw [if_pos he, if_pos (by omega)] at hy'
      cases hy'
      rw [← he, hj] at hg; cases hg; exact hx
    · rw [if_neg he, ← hg] at hy'; cases hy'; exact Imp.refl _
  · rw [if_neg hq, hy] at hy'; cases hy'; exact Imp.refl _
end
end Go.Vm
namespace Go.Vm
open Go

theorem one_wid {α : Type} {e : List α} {sz : Nat} (h : e.length = sz) : ∀ x, x ∈ [e] → x.length = sz := fun x hx => by
  rw [List.mem_singleton.1 hx]; exact h
theorem map_wid {α : Type} {f : α → List C} {sz : Nat} {l : List α} (h : ∀ x, (f x).length = sz) : ∀ e, e ∈ l.map f → e.length = sz := fun e he => by
  obtain ⟨x, _, rfl⟩ := List.mem_map.1 he; exact h x
theorem clo_len (es : List (List C)) : (clo es).length = es.length := by simp [clo]
theorem app_get {es : List (List C)} {e : List X} {i : Nat} (h : es.length = i) : (clo es ++ [e])[i]? = some e := by
  subst h; rw [List.getElem?_append_right (by rw [clo_len]; exact Nat.le_refl _), clo_len]; simp
theorem app_set {es : List (List C)} {e e' : List X} {i : Nat} (h : es.length = i) : (clo es ++ [e]).set i e' = clo es ++ [e'] := by
  subst h; rw [List.set_append_right _ _ (by rw [clo_len]; exact Nat.le_refl _), clo_len]; simp
theorem app_lt {es : List (List C)} {e : List X} {i : Nat} (h : es.length = i) : i < (clo es ++ [e]).length := by
  subst h; simp [clo_len]
theorem app_take {es : List (List C)} {e : List X} {i : Nat} (h : es.length = i) : ((clo es).drop 0).take i ++ [e] = clo es ++ [e] := by
  subst h; rw [List.drop_zero, List.take_of_length_le (by rw [clo_len]; exact Nat.le_refl _)]
theorem clo_snoc {es : List (List C)} {e : List C} : clo es ++ [e.map X.c] = clo (es ++ [e]) := by simp [clo]
theorem take_map_len {α β : Type} {f : α → β} {l : List α} {i : Nat} (h : i ≤ l.length) : ((l.take i).map f).length = i := by simp; omega
theorem take_map_snoc {α β : Type} {f : α → β} {l : List α} {i : Nat} (h : i < l.length) : (l.take i).map f ++ [f l[i]] = (l.take (i + 1)).map f := by
  rw [List.take_add_one, List.getElem?_eq_getElem h, Option.toList_some, List.map_append]; rfl
section
variable {P : Program} {ty : Ty} {c : Ctx} {nt : Nat} {st : St}
theorem src_row {x : Operand} {nm sz : Nat} {row : List X} (hx : ev st x = some (.v (.one (.hdr nm 0 1)))) (hn : kn c st nm = some ⟨sz, [row]⟩) (hp : row.all plainX = true) (hw : row.length = sz) :
    Src P ty c nt st x sz [row] :=
  src_hdr (nd := ⟨sz, [row]⟩) hx hn (Nat.le_refl _) rfl (fun e he => by rw [List.mem_singleton.1 he]; exact hp) (one_wid hw)
theorem XOk.snapH {ins : List Nat} {nm n sz : Nat} {es es' : List (List C)} (hn : st.nd nm = some ⟨sz, clo es⟩) (hni : nm ∉ ins) (hl : n = es.length) (hw : ∀ e, e ∈ es → e.length = sz) (he : es.map (List.map C.shr) = es') :
    XOk P ty c nt st ins (.hdr nm 0 n) (.c (.sh sz es')) := by
  subst hl; subst he
  have := XOk.snapc (P := P) (ty := ty) (c := c) (nt := nt) (ins := ins) (lo := 0) (n := es.length) hn hni (by omega) hw
  rwa [List.drop_zero, List.take_length] at this
end
end Go.Vm
namespace Go.Vm
open Go

section
variable {P : Program} {ty : Ty} {c : Ctx} {nt : Nat} {st : St} {Q : Exit → St → Prop}
variable {a : Act} {w : World} {L : Lay} {F : Nat → FP}
variable {ops : Array Oper} {rest : List Oper} {tp : TypeId} {pos : String} {after : Array Edge}

theorem zeroCells_one {z : Array Value} (hz : ∀ v, v ∈ z.toList → v.oneCell' = true) (n : Nat) : ∀ u, u ∈ (Builtin.zeroCells z n).toList → u.oneCell' = true := by
  intro u hu
  simp only [Builtin.zeroCells, Array.toList_map, List.mem_map] at hu
  obtain ⟨i, hi, rfl⟩ := hu
  have hi' : i < n * z.size := by simpa using hi
  have hpos : 0 < z.size := by
    rcases Nat.eq_zero_or_pos z.size with h | h
    · rw [h] at hi'; omega
    · exact h
  have : i % z.size < z.size := Nat.mod_lt _ hpos
  rw [getElem!_pos z (i % z.size) this]
  exact hz _ (by rw [Array.mem_toList_iff]; exact Array.getElem_mem this)

/-- cells of an array's row behind what is told of it turn -/
theorem GX.behind (g : GX P ty c nt st a w L F) {nm lo n : Nat} {nd : Node} (hn : st.nd nm = some nd) (hlo : nd.es.length ≤ lo) (hcap : lo + n ≤ (L nm).cap) (us : List Value) (hl : us.length = n * nd.sz) {w' : World}
    (hfr : Fr (fun x y => x = (L nm).addr.block ∧ (L nm).addr.off + lo * nd.sz ≤ y ∧ y < (L nm).addr.off + lo * nd.sz + us.length) w w')
    (hrd : ∀ (j : Nat) u, us[j]? = some u → rd w' (L nm).addr.block ((L nm).addr.off + lo * nd.sz + j) = some u) : GX P ty c nt st a w' L F := by
  obtain ⟨hk, hN⟩ := g.sa.node nm nd hn
  have hmul : lo * nd.sz + us.length ≤ (L nm).cap * nd.sz := by rw [hl, ← Nat.add_mul]; exact Nat.mul_le_mul_right _ hcap
  have hS : ∀ b o, (b = (L nm).addr.block ∧ (L nm).addr.off + lo * nd.sz ≤ o ∧ o < (L nm).addr.off + lo * nd.sz + us.length) → F nm b o := by
    rintro b o ⟨rfl, h1, h2⟩
    have := hN.rowF (p := o - (L nm).addr.off) (by omega)
    rwa [show (L nm).addr.off + (o - (L nm).addr.off) = o by omega] at this
  have hz := g.zAg hfr (fun b o hb => ⟨nm, hS b o hb⟩)
  refine g.redo (fun _ => rfl) (Nat.le_refl _) (LAg.refl _ _) hfr (fun b o hb => ⟨nm, hS b o hb⟩) (fun x nd' hx => ?_) g.sa.none g.sa.dis (fun x b o hb => .inl ⟨x, hb⟩) (fun x b o hb => Nat.lt_of_lt_of_le (g.sa.lt x b o hb) hfr.size)
  by_cases hxn : x = nm
  · subst hxn
    rw [hn] at hx; cases hx
    refine ⟨hk, hN.sz, hN.spot, hN.lim, hN.len, hN.wid, fun j hj => ?_, ?_⟩
    · obtain ⟨h1, h2⟩ := hN.row j hj
      obtain ⟨v, hv⟩ := Option.isSome_iff_exists.1 h1
      have hb := rd_lt hv
      refine ⟨?_, by rw [hfr.froz _ _ hb]; exact h2⟩
      by_cases hr : lo * nd.sz ≤ j ∧ j < lo * nd.sz + us.length
      · have hlt : j - lo * nd.sz < us.length := by omega
        have := hrd (j - lo * nd.sz) _ (List.getElem?_eq_getElem hlt)
        rw [show (L x).addr.off + lo * nd.sz + (j - lo * nd.sz) = (L x).addr.off + j by omega] at this
        rw [this]; rfl
      · rw [hfr.cell _ _ hb (by omega)]; exact h1
    · obtain ⟨gf, vals, c1, c2, c3, c4, c5, c6⟩ := hN.ex
      refine ⟨gf, vals, fun p y hp => ?_, fun p y hp => ?_, c3, c4, c5, c6⟩
      · have hv := c1 p y hp
        have hlt := lt_of_get hp
        rw [hN.flen] at hlt
        have : nd.es.length * nd.sz ≤ lo * nd.sz := Nat.mul_le_mul_right _ hlo
        rw [hfr.cell _ _ (rd_lt hv) (by omega)]; exact hv
      · refine (c2 p y hp).mono ZLe.rfl hz (fun b o hb => ?_) (LAg.refl _ _) (Nat.le_refl _)
        have hbl := g.sa.lt x b o ((c6 b o).2 (.inr ⟨p, hb⟩))
        exact ⟨hfr.cell b o hbl fun hs => c4 p b o hb ⟨hs.1, by omega, by omega⟩, hfr.froz b o hbl⟩
  · exact g.keep (Nat.le_refl _) (LAg.refl _ _) hfr (fun b o hb => ⟨nm, hS b o hb⟩) hx (fun b o h1 h2 => g.sa.dis x nm hxn b o h1 (hS b o h2))

theorem vl_clear {t el : TypeId} {x : Operand} {nm lo n : Nat} {nd : Node} {d de : TyD} (ht : ty t = some d) (hdesc : d.desc = .slice el) (hel : ty el = some de)
    (hx : ev st x = some (.v (.one (.hdr nm lo n)))) (hn : st.nd nm = some nd) (hsz : nd.sz = de.size) (hlo : nd.es.length ≤ lo) (k : vl P ty c nt ops rest st Q) :
    vl P ty c nt ops (⟨none, .call ⟨.builtin .clear, #[x], #[t]⟩, tp, pos, after, none⟩ :: rest) st Q := by
  refine vl_val (dst := none) st (.tup []) trivial (fun a w L F g => ?_) k
  obtain ⟨_, hk, hle, A, hv, hA⟩ := ev_ok g hx
  obtain ⟨_, hN⟩ := g.sa.node nm nd hn
  obtain ⟨z, hz1, hzc⟩ := run_zero g.tyok hel w
  obtain ⟨_, _, _, hlen, hone⟩ := g.tyok el de hel
  have hex : ∀ w', (Builtin.clear_ #[t] tp #[a.eval x]).run P w = .ok (.tuple #[]) w' → (execOp a.eval ⟨none, .call ⟨.builtin .clear, #[x], #[t]⟩, tp, pos, after, none⟩).run P w = .ok (.value (.tuple #[])) w' := by
    intro w' h
    simp only [execOp, resolve, List.map_toArray, List.map_cons, List.map_nil, invoke, builtin, Sem.run_bind, Sem.run_pure, Result.andThen_ok, h]
  have htr : ∀ w' L', TR w' L' L'.Z st.k (.tup []) (.tuple #[]) := fun w' L' => ⟨[], rfl, rfl, by simp⟩
  rcases Nat.eq_zero_or_pos n with h0 | h0
  · subst h0
    refine ⟨.tuple #[], w, L, F, hex w ?_, g, htr _ _⟩
    rw [hv]
    cases A <;> simp [Builtin.clear_, run_und g.tyok ht, hdesc]
  · have hA' := hA (by omega)
    subst hA'
    have hzs : z.cells.size = nd.sz := by rw [hzc, hsz]; simpa using hlen
    let us := (Builtin.zeroCells z.cells n).toList
    have hul : us.length = n * nd.sz := by simp only [us, Array.length_toList, zeroCells_size, hzs]
    have hmul : lo * nd.sz + us.length ≤ (L nm).cap * nd.sz := by rw [hul, ← Nat.add_mul]; exact Nat.mul_le_mul_right _ hle
    have hone' : ∀ u, u ∈ us → u.oneCell' = true := zeroCells_one (fun v hv => hone v (by rw [hzc] at hv; simpa using hv)) n
    obtain ⟨w', hst, hsz', hfr, hrd⟩ := run_storeCells_row (P := P) us w (L nm).addr.block ((L nm).addr.off + lo * nd.sz) 0 (fun j hj => by
      rw [Nat.add_zero, Nat.add_assoc]; exact hN.row _ (by omega)) hone'
    refine ⟨.tuple #[], w', L, F, hex w' ?_, g.behind hn hlo hle us hul (by simpa using hfr) (by simpa using hrd), htr _ _⟩
    have hpa : paddr L nm lo 0 = ⟨(L nm).addr.block, (L nm).addr.off + lo * nd.sz, none⟩ := by simp [paddr, hN.sz]
    obtain ⟨m, rfl⟩ : ∃ m, n = m + 1 := ⟨n - 1, by omega⟩
    rw [hv, hpa]
    simp [Builtin.clear_, run_und g.tyok ht, hdesc, hz1]
    have hst' := hst
    simp only [us] at hst'
    rw [hst']; rfl
end
end Go.Vm
namespace Go.Vm
open Go

section
variable {P : Program} {ty : Ty} {c : Ctx} {nt : Nat} {st : St}
theorem Weak.junk {m i : Nat} {nd : Node} {e : List X} (hm : st.nd m = some nd) (hi : nd.es[i]? = some e) (hp : e.all plainX = true) (hw : ∀ e, e ∈ nd.es → e.length = nd.sz) :
    Weak P ty c nt st (st.setN m (some ⟨nd.sz, nd.es.set i (List.replicate nd.sz (.c .any))⟩)) := by
  rintro a w ⟨L, F, g⟩
  have hwe := hw e (List.mem_of_getElem? hi)
  have hel : (List.replicate nd.sz (X.c .any)).length = nd.sz := by simp
  refine ⟨L, F, g.tell hm (by simp) (set_length_flatten hw hel) fun p y y' hy hy' => ?_⟩
  rw [flatten_set hw hi hel p] at hy'
  by_cases hq : i * nd.sz ≤ p ∧ p < i * nd.sz + nd.sz
  · rw [if_pos hq, List.getElem?_replicate] at hy'
    split at hy'
    · cases hy'
      have hg := flatten_get hw hi (j := p - i * nd.sz) (by omega)
      rw [show i * nd.sz + (p - i * nd.sz) = p by omega, hy] at hg
      exact Imp.any (List.all_eq_true.1 hp y (List.mem_of_getElem? hg.symm))
    · cases hy'
  · rw [if_neg hq, hy] at hy'; cases hy'; exact Imp.refl _
end
end Go.Vm
namespace Go.Vm
open Go
theorem set_wid {α : Type} {es : List (List α)} {sz i : Nat} {e : List α} (h : ∀ x, x ∈ es → x.length = sz) (he : e.length = sz) : ∀ x, x ∈ es.set i e → x.length = sz := set_length_flatten h he
theorem clo_wid {es : List (List C)} {sz : Nat} (h : ∀ e, e ∈ es → e.length = sz) : ∀ e, e ∈ clo es → e.length = sz := fun e he => by
  obtain ⟨x, hx, rfl⟩ := List.mem_map.1 he
  rw [List.length_map]; exact h x hx
theorem set_get2 {α : Type} {l : List α} {i j : Nat} {e f : α} (h : i < l.length) (hne : j ≠ i) : ((l.set i e).set j f)[i]? = some e := by
  rw [List.getElem?_set_ne hne]; exact set_get h
theorem set_swap {α : Type} {l : List α} {i j : Nat} {a b d : α} (h : j ≠ i) : ((l.set i a).set j b).set i d = (l.set j b).set i d := by
  rw [List.set_comm _ _ h, List.set_set, ← List.set_comm _ _ h]
theorem strC_noZ (s : ByteArray) : (strC s).all C.noZ = true := by simp [strC, C.noZ_val]
theorem boolC_noZ (b : Bool) : (boolC b).all C.noZ = true := by simp [boolC, C.noZ_val]
theorem intC_noZ (n : Int) : (intC n).all C.noZ = true := by simp [intC, C.noZ_val]
theorem nzN_map {α : Type} {f : α → List C} {sz : Nat} {l : List α} (h : ∀ x, (f x).all C.noZ = true) : nzN ⟨sz, clo (l.map f)⟩ :=
  nzN_clo fun e he => by obtain ⟨x, _, rfl⟩ := List.mem_map.1 he; exact h x
end Go.Vm
namespace Go.Vm
open Go

section
variable {P : Program} {ty : Ty} {c : Ctx} {nt : Nat} {st : St} {Q : Exit → St → Prop}
variable {a : Act} {w : World} {L : Lay} {F : Nat → FP}
variable {ops : Array Oper} {rest : List Oper} {dst : Option Nat} {tp : TypeId} {pos : String} {after : Array Edge}

/-- several ways that meet -/
def Meets (P : Program) (ty : Ty) (c : Ctx) (nt : Nat) (I : St → Prop) (st : St) : Prop := ∃ st'', I st'' ∧ Weak P ty c nt st st''
theorem wk_weak {I : St → Prop} {st1 : St} (h : Weak P ty c nt st st1) (k : Meets P ty c nt I st1) : Meets P ty c nt I st := let ⟨st'', h1, h2⟩ := k; ⟨st'', h1, h.trans h2⟩
theorem vc_join {x y : Code} (I : St → Prop) (h1 : ∀ K : St → Prop, (∀ st', Meets P ty c nt I st' → K st') → vc P ty c nt x st (ExT K Q))
    (h2 : ∀ st', I st' → vc P ty c nt y st' Q) : vc P ty c nt (.seq x y) st Q :=
  vc_seq fun K hK => h1 K fun st' ⟨st'', hi, hw⟩ => hK st' (vc_weak hw (h2 st'' hi))

/-- a call that takes and gives no node, told by what it answers everywhere -/
theorem ctr_of_calls {f : FuncId} {vs : List V} {u : Value} (hf : ∃ fn, FnAt P f fn) (h1 : u.oneCell' = true) (hs : nsT (vv u) = true)
    (h : ∀ (w : World) (L : Lay) (args : List Value), TyOk P ty → (∀ b o, L.Z.all b o → b < w.heap.size) → args.length = vs.length → (∀ (j : Nat) x y, vs[j]? = some x → args[j]? = some y → VR w L L.Z 16 x y) →
      Calls P f args.toArray w fun e w' => e = .returned u ∧ RowKit.Below w.heap.size w w') : Ctr P ty f vs [] (Gives (vv u) [] []) := by
  refine ⟨hf, fun w L F args hT hS hZ hl hv => ?_, nsK_gives hs trivial trivial⟩
  refine (h w L args hT hZ hl hv).mono fun e w' ⟨he, hb⟩ => ⟨u, he, vv u, [], fun n => ([] : List Node)[n]?, L, F, ⟨rfl, rfl, rfl⟩, LAg.refl _ _, ?_, vv_TR h1, Fr.ofBelow hb _, fun n b o hb => .inl ⟨n, hb⟩, ZLe.rfl, fun b o h => .inl h, fun b o h => Nat.lt_of_lt_of_le (hZ b o (L.Z.sub b o h)) hb.size⟩
  refine ⟨fun nm nd hn => ?_, fun nm _ => ?_, hS.dis, hS.disZ, fun n b o hn => Nat.lt_of_lt_of_le (hS.lt n b o hn) hb.size⟩
  · simp [outNd] at hn
  · exact hS.none nm (by simp)

/-- a node told in other words, which hold here -/
theorem NodeR.tell' {Z : Zn} {k nm : Nat} {nd : Node} {f : FP} (h : NodeR w L Z k nm nd f) {es' : List (List X)} (hl : es'.length = nd.es.length) (hw : ∀ e, e ∈ es' → e.length = nd.sz)
    (hp : ∀ (p : Nat) x x', nd.es.flatten[p]? = some x → es'.flatten[p]? = some x' → ∀ v g, XR w L Z k x v g → XR w L Z k x' v g) : NodeR w L Z k nm ⟨nd.sz, es'⟩ f := by
  obtain ⟨g, vals, c1, c2, c3, c4, c5, c6⟩ := h.ex
  have hfl : es'.flatten.length = nd.es.flatten.length := by rw [flatten_length_of_wid hw, h.flen, hl]
  have hget : ∀ (p : Nat) x', es'.flatten[p]? = some x' → ∃ x, nd.es.flatten[p]? = some x := fun p x' hx => by
    have := lt_of_get hx
    exact ⟨_, List.getElem?_eq_getElem (by omega)⟩
  refine ⟨h.sz, h.spot, h.lim, by simpa [hl] using h.len, hw, h.row, g, vals, fun p x' hx => ?_, fun p x' hx => ?_, fun p hpl => c3 p (by simpa [hfl] using hpl), c4, c5, c6⟩
  · obtain ⟨x, h1⟩ := hget p x' hx; exact c1 p x h1
  · obtain ⟨x, h1⟩ := hget p x' hx; exact hp p x x' h1 hx _ _ (c2 p x h1)
theorem GX.tell1' (h : GX P ty c nt st a w L F) {m i j : Nat} {nd : Node} {e : List X} {x x' : X} (hm : st.nd m = some nd) (hi : nd.es[i]? = some e) (hj : e[j]? = some x)
    (hx : ∀ v g, XR w L L.Z st.k x v g → XR w L L.Z st.k x' v g) : GX P ty c nt (st.setN m (some ⟨nd.sz, nd.es.set i (e.set j x')⟩)) a w L F := by
  obtain ⟨hk, hN⟩ := h.sa.node m nd hm
  have hw := hN.wid
  have hwe := hw e (List.mem_of_getElem? hi)
  have hel : (e.set j x').length = nd.sz := by rw [List.length_set]; exact hwe
  have hjl : j < nd.sz := by rw [← hwe]; exact lt_of_get hj
  have hN' : NodeR w L L.Z st.k m ⟨nd.sz, nd.es.set i (e.set j x')⟩ (F m) := by
    refine hN.tell' (by simp) (set_length_flatten hw hel) fun p y y' hy hy' => ?_
    rw [flatten_set hw hi hel p] at hy'
    by_cases hq : i * nd.sz ≤ p ∧ p < i * nd.sz + nd.sz
    · rw [if_pos hq, List.getElem?_set] at hy'
      have hg := flatten_get hw hi (j := p - i * nd.sz) (by omega)
      rw [show i * nd.sz + (p - i * nd.sz) = p by omega, hy] at hg
      by_cases he : j = p - i * nd.sz
      · rw [if_pos he, if_pos (by omega)] at hy'
        cases hy'
        rw [← he, hj] at hg; cases hg; exact hx
      · rw [if_neg he, ← hg] at hy'; cases hy'; exact fun _ _ x => x
    · rw [if_neg hq, hy] at hy'; cases hy'; exact fun _ _ x => x
  refine ⟨h.tyok, h.defers, h.size, h.lay, ⟨fun n nd' hn => ?_, fun n hn => ?_, h.sa.dis, h.sa.disZ, h.sa.lt⟩, h.zle, h.znew, h.zfnew, h.zlt, h.znf, h.tm, h.scope, h.fr, h.kf, h.ok⟩
  · simp only [St.setN] at hn ⊢
    by_cases hc : n = m
    · subst hc; simp at hn; subst hn; exact ⟨hk, hN'⟩
    · rw [beq_no hc] at hn; exact h.sa.node n nd' hn
  · simp only [St.setN] at hn
    by_cases hc : n = m
    · subst hc; simp at hn
    · rw [beq_no hc] at hn; exact h.sa.none n hn
theorem GX.retm (h : GX P ty c nt st a w L F) {t : Nat} {x : T} (hx : TR w L L.Z st.k x (a.tmps.getD t undef)) : GX P ty c nt (st.put (some t) x) a w L F := by
  refine ⟨h.tyok, h.defers, h.size, h.lay, ⟨h.sa.node, h.sa.none, h.sa.dis, h.sa.disZ, h.sa.lt⟩, h.zle, h.znew, h.zfnew, h.zlt, h.znf, fun s y hy => ?_, h.scope, h.fr, h.kf, h.ok⟩
  simp only [St.put] at hy
  by_cases ht : s = t
  · subst ht; simp at hy; subst hy; exact hx
  · rw [beq_no ht] at hy; exact h.tm s y hy

/-- an array that is not turned any more: what held its header reads as frozen -/
theorem ice_of {Z : Zn} {k' k'' m lo n sz : Nat} {es : List (List C)} {f g : FP} {v : Value} {L' : Lay} (hN : NodeR w L Z k' m ⟨sz, clo es⟩ f) (hlo : lo + n ≤ es.length) (hL : L'.ns m = L.ns m) (hZ : ZLe Z L'.Z) (hf : ∀ b o, f b o → L'.Z.fz b o)
    (hx : XR w L' L'.Z k'' (.hdr m lo n) v g) : XR w L' L'.Z k'' (.c (.fz sz (((es.drop lo).take n).map (List.map C.frz)))) v g := by
  obtain ⟨hg, hk, hle, A, rfl, hA⟩ := hx
  rw [show (L' m) = L m from hL] at hle hA ⊢
  obtain ⟨gf, vals, c1, c2, c3, c4, c5, c6⟩ := hN.ex
  have hsz : (L m).sz = sz := hN.sz
  have hwid : ∀ e, e ∈ es → e.length = sz := fun e he => by
    have := hN.wid (e.map X.c) (List.mem_map.2 ⟨e, he, rfl⟩)
    simpa using this
  have hcl := hN.len
  have hlim := hN.lim
  simp only [clo, List.length_map] at hcl
  have hlen0 : ((es.drop lo).take n).length = n := by rw [List.length_take, List.length_drop]; omega
  have hw0 : ∀ e, e ∈ (es.drop lo).take n → e.length = sz := fun e he => hwid e (List.mem_of_mem_drop (List.mem_of_mem_take he))
  have hf0 : ((es.drop lo).take n).flatten.length = n * sz := by rw [flatten_length_of_wid hw0, hlen0]
  have hold : ∀ p y, ((es.drop lo).take n).flatten[p]? = some y → es.flatten[lo * sz + p]? = some y := by
    intro p y hp
    have hlt : p < n * sz := by rw [← hf0]; exact lt_of_get hp
    rw [flatten_take (fun e he => hwid e (List.mem_of_mem_drop he)), flatten_drop hwid (by omega), List.getElem?_take, if_pos hlt, List.getElem?_drop] at hp
    exact hp
  have hfr : (((es.drop lo).take n).map (List.map C.frz)).flatten = ((es.drop lo).take n).flatten.map C.frz := by rw [List.map_flatten]
  have hfc : (clo es).flatten = es.flatten.map X.c := by simp only [clo]; rw [← List.map_flatten]
  have hlm : (((es.drop lo).take n).map (List.map C.frz)).length = n := by rw [List.length_map, hlen0]
  show CM w _ _ (.slice A n ((L m).cap - lo)) g
  conv => arg 4; rw [← hlm]
  have hget : ∀ (p : Nat) y, (((es.drop lo).take n).map (List.map C.frz)).flatten[p]? = some y → ∃ y0, y = y0.frz ∧ (clo es).flatten[lo * sz + p]? = some (X.c y0) ∧ p < n * sz := by
    intro p y hp
    rw [hfr, List.getElem?_map] at hp
    obtain ⟨y0, h0, rfl⟩ := Option.map_eq_some_iff.1 hp
    refine ⟨y0, rfl, ?_, by rw [← hf0]; exact lt_of_get h0⟩
    rw [hfc, List.getElem?_map, hold p y0 h0]; rfl
  refine .ice sz _ A _ _ (fun p => vals (lo * sz + p)) hg (by rw [hlm]; omega) (by rw [hlm]; omega) (fun e he => ?_) (fun p y hp => ?_) (fun p y hp => ?_)
  · obtain ⟨e', he', rfl⟩ := List.mem_map.1 he
    rw [List.length_map]; exact hw0 e' he'
  · obtain ⟨y0, rfl, h1, h2⟩ := hget p y hp
    have hnn : n ≠ 0 := fun e => by rw [e] at h2; omega
    have hr := c1 _ _ h1
    have hpa : (paddr L' m lo 0).off + p = (L m).addr.off + (lo * sz + p) := by simp only [paddr, show (L' m) = L m from hL, hsz]; omega
    have hbl : (paddr L' m lo 0).block = (L m).addr.block := by simp only [paddr, show (L' m) = L m from hL]
    refine ⟨paddr L' m lo 0, hA (by omega), rfl, by rw [hpa, hbl]; exact hr, ?_⟩
    rw [hpa, hbl]
    exact hf _ _ (hN.rowF (hN.in_row (lt_of_get h1)))
  · obtain ⟨y0, rfl, h1, h2⟩ := hget p y hp
    have hcm : CM w Z y0 (vals (lo * sz + p)) (gf (lo * sz + p)) := c2 _ _ h1
    exact hcm.frz hZ fun b o hb => hf b o ((c6 b o).2 (.inr ⟨_, hb⟩))

/-- a node is frozen: it has no name any more -/
theorem GX.melt (g : GX P ty c nt st a w L F) (hc : c.nf = false) {m : Nat} {nd : Node} (hm : st.nd m = some nd) :
    GX P ty c nt (st.setN m none) a w ⟨L.ns, ⟨fun b o => L.Z.all b o ∨ F m b o, fun b o => L.Z.fz b o ∨ F m b o, fun b o h => h.imp (L.Z.sub b o) id⟩⟩ (fun n => if n = m then bot else F n) := by
  have hle : ZLe L.Z ⟨fun b o => L.Z.all b o ∨ F m b o, fun b o => L.Z.fz b o ∨ F m b o, fun b o h => h.imp (L.Z.sub b o) id⟩ := ⟨fun _ _ h => .inl h, fun _ _ h => .inl h⟩
  refine g.redoZ (S := bot) (fun _ => rfl) (Nat.le_refl _) (fun _ _ => rfl) (Fr.refl _ _) (fun _ _ h => h.elim) (fun n nd' hn => ?_) (fun n hn => ?_) (fun x y hxy => ?_) (fun n b o hb => ?_) (fun n b o hb => ?_) hle
    (fun b o h => h.imp id .inr) (fun b o h => h.imp id fun h => .inl ⟨m, h⟩) (fun n b o hb hz => ?_) (fun b o h => ?_) (fun e => by rw [hc] at e; cases e)
  · simp only [St.setN] at hn ⊢
    by_cases hnm : n = m
    · subst hnm; simp at hn
    · rw [beq_no hnm] at hn
      rw [if_neg hnm]
      obtain ⟨h1, h2⟩ := g.sa.node n nd' hn
      exact ⟨h1, h2.mono h1 hle (fun _ _ _ => ⟨rfl, rfl⟩) (fun _ _ _ => ⟨rfl, rfl⟩) (fun _ _ => rfl) (Nat.le_refl _)⟩
  · simp only [St.setN] at hn
    by_cases hnm : n = m
    · rw [if_pos hnm]; exact Emp.bot
    · rw [beq_no hnm] at hn; rw [if_neg hnm]; exact g.sa.none n hn
  · split
    · exact Emp.bot.disj _
    · split
      · exact Emp.bot.disj' _
      · exact g.sa.dis x y hxy
  · split at hb
    · exact hb.elim
    · exact .inl ⟨n, hb⟩
  · split at hb
    · exact hb.elim
    · exact g.sa.lt n b o hb
  · split at hb
    · exact hb
    · rename_i hne
      rcases hz with h | h
      · exact g.sa.disZ n b o hb h
      · exact g.sa.dis n m hne b o hb h
  · rcases h with h | h
    · exact g.zlt b o h
    · exact g.sa.lt m b o h
/-- a cell whose array is frozen -/
theorem Weak.frzC (hc : c.nf = false) {nm i j m lo n sz : Nat} {nd : Node} {e : List X} {es es' : List (List C)} (hn : st.nd nm = some nd) (hi : nd.es[i]? = some e)
    (hj : e[j]? = some (.hdr m lo n)) (hm : st.nd m = some ⟨sz, clo es⟩) (hlo : lo + n ≤ es.length) (hne : m ≠ nm) (he : ((es.drop lo).take n).map (List.map C.frz) = es') :
    Weak P ty c nt st ((st.setN m none).setN nm (some ⟨nd.sz, nd.es.set i (e.set j (.c (.fz sz es')))⟩)) := by
  subst he
  rintro a w ⟨L, F, g⟩
  have g' := g.melt hc hm
  refine ⟨_, _, g'.tell1' (nd := nd) (x := .hdr m lo n) (by simp only [St.setN]; rw [beq_no (fun e => hne e.symm)]; exact hn) hi hj fun v f hx => ?_⟩
  exact ice_of (g.sa.node m _ hm).2 hlo rfl ⟨fun _ _ h => .inl h, fun _ _ h => .inl h⟩ (fun b o h => .inr h) hx
/-- a temporary whose array is frozen -/
theorem Weak.frzT (hc : c.nf = false) {t m lo n sz : Nat} {es es' : List (List C)} (ht : st.tm t = some (.v (.one (.hdr m lo n)))) (hm : st.nd m = some ⟨sz, clo es⟩) (hlo : lo + n ≤ es.length) (he : ((es.drop lo).take n).map (List.map C.frz) = es') :
    Weak P ty c nt st ((st.setN m none).put (some t) (.v (.one (.c (.fz sz es'))))) := by
  subst he
  rintro a w ⟨L, F, g⟩
  have g' := g.melt hc hm
  refine ⟨_, _, g'.retm ?_⟩
  exact ice_of (g.sa.node m _ hm).2 hlo rfl ⟨fun _ _ h => .inl h, fun _ _ h => .inl h⟩ (fun b o h => .inr h) (g'.tm t _ ht)

/-- an array that is told from row lo on -/
theorem Weak.rebase {nm i j m lo n : Nat} {nd ndm : Node} {e : List X} (hn : st.nd nm = some nd) (hi : nd.es[i]? = some e)
    (hj : e[j]? = some (.hdr m lo n)) (hm : st.nd m = some ndm) (hlo : lo + n ≤ ndm.es.length) (hne : m ≠ nm) :
    Weak P ty c nt st (((st.setN m none).add ⟨ndm.sz, (ndm.es.drop lo).take n⟩).setN nm (some ⟨nd.sz, nd.es.set i (e.set j (.hdr st.k 0 n))⟩)) := by
  rintro a w ⟨L, F, g⟩
  obtain ⟨hk, hN⟩ := g.sa.node nm nd hn
  obtain ⟨v0, g0, hv0, hx0, _⟩ := hN.get hi hj
  obtain ⟨_, hkm, hle, A0, _, hA0⟩ := hx0
  have hM := (g.sa.node m ndm hm).2
  have hcl := hM.len
  have hroom : n + ([] : List (List X)).length ≤ (L m).cap - lo := by simp; omega
  obtain ⟨L', F', g', hx', hlag⟩ := g.roomed3 (A := if lo < (L m).cap then some (paddr L m lo 0) else A0) hm hlo [] [] (by simp) (by simp) (by simp) hroom (Fr.refl _ w) (by simp) (fun h => by rw [if_pos h])
  rw [List.append_nil] at g'
  refine ⟨L', F', g'.tell1' (nd := nd) (x := .hdr m lo n) ?_ hi hj fun v f hx => ?_⟩
  · simp only [St.add, St.setN]
    rw [beq_no (by omega), beq_no (fun e => hne e.symm)]; exact hn
  · -- the header's value, in the new layout
    obtain ⟨h1, h2, h3, A, rfl, hA⟩ := hx
    obtain ⟨_, e2, e3, B, e4, e5⟩ := hx'
    simp only [List.length_nil, Nat.add_zero] at e3 e4 e5
    rw [hlag m hkm] at h3 hA ⊢
    have hB : L' st.k = L' st.k := rfl
    refine ⟨h1, e2, e3, A, ?_, ?_⟩
    · injection e4 with _ _ e6
      rw [Nat.sub_zero]; rw [Nat.sub_zero] at e6
      rw [e6]
    · intro hc
      injection e4 with e7 _ e6
      rw [Nat.sub_zero] at e6
      have hlt : lo < (L m).cap := by omega
      have := e5 hc
      rw [hA hlt]
      rw [if_pos hlt] at e7
      rw [this] at e7
      rw [← e7]
      simp only [paddr, hlag m hkm]
end
end Go.Vm
namespace Go.Vm
open Go

theorem sgm_lo {n a b m : Nat} (hn : n < 16) (h : 16 ≤ a) (hf : m = n) : (bif Nat.beq n a then b else m) = n := by
  rw [beq_no (by omega)]; exact hf
theorem clo_get {α : Type} {f : α → List C} {l : List α} {i : Nat} (h : i < l.length) : (clo (l.map f))[i]? = some ((f l[i]).map X.c) := by
  simp only [clo, List.getElem?_map, List.getElem?_eq_getElem h]; rfl
theorem clo_set {α : Type} {f : α → List C} {l : List α} {i : Nat} {x : α} : (clo (l.map f)).set i ((f x).map X.c) = clo ((l.set i x).map f) := by
  simp only [clo, List.map_set]
theorem clo_drop {α : Type} {f : α → List C} {l : List α} (i : Nat) : (clo (l.map f)).drop i = clo ((l.drop i).map f) := by
  simp only [clo, List.map_drop]
theorem clo_take {α : Type} {f : α → List C} {l : List α} (i : Nat) : (clo (l.map f)).take i = clo ((l.take i).map f) := by
  simp only [clo, List.map_take]
theorem clo_append {α : Type} {f : α → List C} {l m : List α} : clo (l.map f) ++ clo (m.map f) = clo ((l ++ m).map f) := by
  simp only [clo, List.map_append]
theorem clo_one {α : Type} {f : α → List C} {l : List α} {x : α} : clo (l.map f) ++ [(f x).map X.c] = clo ((l ++ [x]).map f) := by
  simp only [clo, List.map_append, List.map_cons, List.map_nil]
section
variable {P : Program} {ty : Ty} {c : Ctx} {nt : Nat} {st : St} {Q : Exit → St → Prop}
variable {a : Act} {w : World} {L : Lay} {F : Nat → FP}
variable {ops : Array Oper} {rest : List Oper} {dst : Option Nat} {tp : TypeId} {pos : String} {after : Array Edge}

/-- a header of a new array, told as frozen -/
def FrzX (ns : List Node) : X → X → Prop
  | .hdr nm lo n, x' => (nm < 16 ∧ x' = .hdr nm lo n) ∨ (16 ≤ nm ∧ ∃ sz es, ns[nm - 16]? = some ⟨sz, clo es⟩ ∧ lo + n ≤ es.length ∧ x' = .c (.fz sz (((es.drop lo).take n).map (List.map C.frz))))
  | .ptr nm i off, x' => nm < 16 ∧ x' = .ptr nm i off
  | .c c, x' => x' = .c c
  | _, _ => False
def FrzL (ns : List Node) : List X → List X → Prop
  | [], [] => True
  | x :: l, x' :: l' => FrzX ns x x' ∧ FrzL ns l l'
  | _, _ => False
def FrzV (ns : List Node) : V → V → Prop
  | .one x, .one x' => FrzX ns x x'
  | .agg l, .agg l' => FrzL ns l l'
  | _, _ => False
def FrzVs (ns : List Node) : List V → List V → Prop
  | [], [] => True
  | x :: l, x' :: l' => FrzV ns x x' ∧ FrzVs ns l l'
  | _, _ => False
def FrzT (ns : List Node) : T → T → Prop
  | .v v, .v v' => FrzV ns v v'
  | .tup l, .tup l' => FrzVs ns l l'
  | _, _ => False
theorem FrzX.cc (ns : List Node) (cc : C) : FrzX ns (.c cc) (.c cc) := rfl
theorem FrzX.h {ns : List Node} {nm n sz : Nat} {es es' : List (List C)} (h : ns[nm - 16]? = some ⟨sz, clo es⟩) (h16 : 16 ≤ nm) (hn : n = es.length) (he : es.map (List.map C.frz) = es') : FrzX ns (.hdr nm 0 n) (.c (.fz sz es')) := by
  subst hn; subst he
  exact .inr ⟨h16, sz, es, h, by omega, by rw [List.drop_zero, List.take_length]⟩

theorem FrzL.get {ns : List Node} : ∀ {l l' : List X}, FrzL ns l l' → l.length = l'.length ∧ ∀ (j : Nat) x', l'[j]? = some x' → ∃ x, l[j]? = some x ∧ FrzX ns x x'
  | [], [], _ => ⟨rfl, fun j x' h => by simp at h⟩
  | x :: l, x' :: l', h => by
    obtain ⟨h1, h2⟩ := FrzL.get h.2
    refine ⟨congrArg (· + 1) h1, fun j y hy => ?_⟩
    cases j with
    | zero => simp at hy; subst hy; exact ⟨x, rfl, h.1⟩
    | succ j => simp only [List.getElem?_cons_succ] at hy ⊢; exact h2 j y hy
  | [], _ :: _, h => h.elim
  | _ :: _, [], h => h.elim
theorem FrzVs.get {ns : List Node} : ∀ {l l' : List V}, FrzVs ns l l' → l.length = l'.length ∧ ∀ (j : Nat) x', l'[j]? = some x' → ∃ x, l[j]? = some x ∧ FrzV ns x x'
  | [], [], _ => ⟨rfl, fun j x' h => by simp at h⟩
  | x :: l, x' :: l', h => by
    obtain ⟨h1, h2⟩ := FrzVs.get h.2
    refine ⟨congrArg (· + 1) h1, fun j y hy => ?_⟩
    cases j with
    | zero => simp at hy; subst hy; exact ⟨x, rfl, h.1⟩
    | succ j => simp only [List.getElem?_cons_succ] at hy ⊢; exact h2 j y hy
  | [], _ :: _, h => h.elim
  | _ :: _, [], h => h.elim

/-- what a function gives back newly made is told as frozen -/
theorem Ctr.frz {f : FuncId} {vs : List V} {N N' : List Node} {t t' : T} {ns : List Node} (h : Ctr P ty f vs N (Gives t ns N')) (ht : FrzT ns t t') (hb : All (belN 16) N') (hn : nsT t' = true) : Ctr P ty f vs N (Gives t' [] N') := by
  refine ⟨h.fn, fun w L F args hT hS hZ hl hv => ?_, ?_⟩
  · refine (h.run w L F args hT hS hZ hl hv).mono fun e w' ⟨v, he, hco⟩ => ⟨v, he, ?_⟩
    obtain ⟨r, ns', M, L', F', ⟨rfl, rfl, rfl⟩, h1, h2, h3, h4, h5, h6, h7, h8⟩ := hco
    let f0 : FP := fun b o => ∃ i, 16 ≤ i ∧ F' i b o
    let Z2 : Zn := ⟨fun b o => L'.Z.all b o ∨ f0 b o, fun b o => L'.Z.fz b o ∨ f0 b o, fun b o h => h.imp (L'.Z.sub b o) id⟩
    let L2 : Lay := ⟨L'.ns, Z2⟩
    let F2 : Nat → FP := fun n => if n < 16 then F' n else bot
    have hle : ZLe L'.Z Z2 := ⟨fun _ _ h => .inl h, fun _ _ h => .inl h⟩
    have hF2 : ∀ n b o, F2 n b o → n < 16 ∧ F' n b o := fun n b o hb => by
      simp only [F2] at hb
      split at hb
      · exact ⟨‹_›, hb⟩
      · exact hb.elim
    have hxr : ∀ x x' u, FrzX ns' x x' → XR w' L' L'.Z (16 + ns'.length) x u bot → XR w' L2 L2.Z (16 + ([] : List Node).length) x' u bot := by
      intro x x' u hf hx
      cases x with
      | hdr nm lo n =>
        rcases hf with ⟨h16, rfl⟩ | ⟨h16, sz, es, g1, g2, rfl⟩
        · obtain ⟨k1, k2, k3, A, k4, k5⟩ := hx
          exact ⟨k1, by simpa using h16, k3, A, k4, k5⟩
        · have hnd := (h2.node nm ⟨sz, clo es⟩ (by simp only [outNd]; rw [if_neg (by omega)]; exact g1)).2
          have hx2 : XR w' L2 L2.Z (16 + ns'.length) (.hdr nm lo n) u bot := by
            obtain ⟨k1, k2, k3, A, k4, k5⟩ := hx
            exact ⟨k1, k2, k3, A, k4, k5⟩
          have := ice_of (L' := L2) hnd g2 rfl hle (fun b o hb => .inr ⟨nm, h16, hb⟩) hx2
          exact this
      | ptr nm i off =>
        obtain ⟨h16, rfl⟩ := hf
        obtain ⟨k1, k2, k3⟩ := hx
        exact ⟨k1, by simpa using h16, k3⟩
      | c cc =>
        have hf' : x' = .c cc := hf
        subst hf'
        exact CM.mono hx hle (fun _ _ _ => ⟨rfl, rfl⟩) (fun _ _ _ => ⟨rfl, rfl⟩)
      | sp cs => exact hf.elim
      | fn g caps => exact hf.elim
    have hvr : ∀ y y' u, FrzV ns' y y' → VR w' L' L'.Z (16 + ns'.length) y u → VR w' L2 L2.Z (16 + ([] : List Node).length) y' u := by
      intro y y' u hf hy
      cases y with
      | one x => cases y' with
        | one x' => exact hxr x x' u hf hy
        | agg _ => exact hf.elim
      | agg l => cases y' with
        | one x' => exact hf.elim
        | agg l' =>
          obtain ⟨us, u1, u2, u3⟩ := hy
          obtain ⟨q1, q2⟩ := FrzL.get hf
          refine ⟨us, u1, by omega, fun j x y hx hy => ?_⟩
          obtain ⟨x0, e1, e2⟩ := q2 j x hx
          exact hxr x0 x y e2 (u3 j x0 y e1 hy)
    have htr : TR w' L2 L2.Z (16 + ([] : List Node).length) t' v := by
      cases r with
      | v y => cases t' with
        | v y' => exact hvr y y' v ht h3
        | tup _ => exact ht.elim
      | tup l => cases t' with
        | v y' => exact ht.elim
        | tup l' =>
          obtain ⟨us, u1, u2, u3⟩ := h3
          obtain ⟨q1, q2⟩ := FrzVs.get ht
          refine ⟨us, u1, by omega, fun j x y hx hy => ?_⟩
          obtain ⟨x0, e1, e2⟩ := q2 j x hx
          exact hvr x0 x y e2 (u3 j x0 y e1 hy)
    refine ⟨t', [], _, L2, F2, ⟨rfl, rfl, rfl⟩, h1, ⟨fun nm nd hn => ?_, fun nm hn => ?_, fun x y hxy b o hx hy => h2.dis x y hxy b o (hF2 x b o hx).2 (hF2 y b o hy).2, fun x b o hx hz => ?_, fun x b o hx => h2.lt x b o (hF2 x b o hx).2⟩, htr, h4, fun n b o hb => h5 n b o (hF2 n b o hb).2,
      ⟨fun b o h => .inl (h6.1 b o h), fun b o h => .inl (h6.2 b o h)⟩, fun b o hb => ?_, fun b o hb => ?_⟩
    · simp only [outNd] at hn
      by_cases h16 : nm < 16
      · rw [if_pos h16] at hn
        simp only [F2]; rw [if_pos h16]
        obtain ⟨n1, n2⟩ := h2.node nm nd (by simp only [outNd]; rw [if_pos h16]; exact hn)
        have hb' := hb.mem nd (List.mem_of_getElem? hn)
        exact ⟨by simpa using h16, (n2.ren (NR.id hb') (fun _ _ => rfl) rfl).mono (by simpa using h16) hle (fun _ _ _ => ⟨rfl, rfl⟩) (fun _ _ _ => ⟨rfl, rfl⟩) (fun _ _ => rfl) (by simp)⟩
      · rw [if_neg h16] at hn; simp at hn
    · simp only [outNd] at hn
      simp only [F2]
      by_cases h16 : nm < 16
      · rw [if_pos h16] at hn ⊢
        exact h2.none nm (by simp only [outNd]; rw [if_pos h16]; exact hn)
      · rw [if_neg h16]; exact Emp.bot
    · obtain ⟨h16, hx'⟩ := hF2 x b o hx
      rcases hz with hz | ⟨i, hi, hz⟩
      · exact h2.disZ x b o hx' hz
      · exact h2.dis x i (by omega) b o hx' hz
    · rcases hb with hb | ⟨i, _, hb⟩
      · exact h7 b o hb
      · exact .inr (h5 i b o hb)
    · rcases hb with hb | ⟨i, _, hb⟩
      · exact h8 b o hb
      · exact h2.lt i b o hb
  · rintro r ns' M ⟨rfl, rfl, rfl⟩
    exact ⟨hn, by simp, (h.ns _ _ _ ⟨rfl, rfl, rfl⟩).2.2⟩
theorem XOk.fzH {ins : List Nat} {sz : Nat} {es es' : List (List C)} (he : es.map (List.map C.shr) = es') : XOk P ty c nt st ins (.c (.fz sz es)) (.c (.sh sz es')) := by
  subst he; exact XOk.fzs sz es

/-- rows of which nothing but that they are there is told -/
theorem NodeR.more {Z : Zn} {k nm : Nat} {nd : Node} {f : FP} (h : NodeR w L Z k nm nd f) (j : Nat) (hj : nd.es.length + j ≤ (L nm).cap)
    (hv : ∀ p, nd.es.length * nd.sz ≤ p → p < (nd.es.length + j) * nd.sz → ∃ v, rd w (L nm).addr.block ((L nm).addr.off + p) = some v ∧ v.oneCell' = true) :
    NodeR w L Z k nm ⟨nd.sz, nd.es ++ List.replicate j (List.replicate nd.sz (.c .any))⟩ f := by
  obtain ⟨g, vals, c1, c2, c3, c4, c5, c6⟩ := h.ex
  have hfl := h.flen
  have hw : ∀ e, e ∈ nd.es ++ List.replicate j (List.replicate nd.sz (X.c .any)) → e.length = nd.sz := by
    intro e he
    rcases List.mem_append.1 he with h1 | h1
    · exact h.wid e h1
    · rw [List.eq_of_mem_replicate h1]; simp
  have hfl2 : (nd.es ++ List.replicate j (List.replicate nd.sz (X.c .any))).flatten.length = (nd.es.length + j) * nd.sz := by
    rw [flatten_length_of_wid hw]; simp
  have hany : ∀ p x, ¬ p < nd.es.length * nd.sz → (nd.es ++ List.replicate j (List.replicate nd.sz (X.c .any))).flatten[p]? = some x → x = .c .any := by
    intro p x hp hx
    rw [List.flatten_append, List.getElem?_append_right (by omega)] at hx
    obtain ⟨e, he, hxe⟩ := List.mem_flatten.1 (List.mem_of_getElem? hx)
    rw [List.eq_of_mem_replicate he] at hxe
    exact List.eq_of_mem_replicate hxe
  refine ⟨h.sz, h.spot, h.lim, by simpa using hj, hw, h.row, g, fun p => if p < nd.es.length * nd.sz then vals p else (rd w (L nm).addr.block ((L nm).addr.off + p)).getD undef, fun p x hx => ?_, fun p x hx => ?_, fun p hp => c3 p (by rw [hfl]; rw [hfl2] at hp; have : nd.es.length * nd.sz ≤ (nd.es.length + j) * nd.sz := Nat.mul_le_mul_right _ (by omega); omega), c4, c5, c6⟩
  · have hlt := lt_of_get hx
    rw [hfl2] at hlt
    by_cases hp : p < nd.es.length * nd.sz
    · simp only [if_pos hp]
      rw [List.flatten_append, List.getElem?_append_left (by omega)] at hx
      exact c1 p x hx
    · simp only [if_neg hp]
      obtain ⟨v, h1, _⟩ := hv p (by omega) hlt
      rw [h1]; rfl
  · have hlt := lt_of_get hx
    rw [hfl2] at hlt
    by_cases hp : p < nd.es.length * nd.sz
    · simp only [if_pos hp]
      rw [List.flatten_append, List.getElem?_append_left (by omega)] at hx
      exact c2 p x hx
    · simp only [if_neg hp]
      obtain ⟨v, h1, h2⟩ := hv p (by omega) hlt
      rw [hany p x hp hx, h1]
      exact .any v _ h2 (c3 p (by rw [hfl]; omega))

/-- rows of an array moved forward in it: append(s[:i], s[j:]..) -/
theorem vl_shift {t t2 el : TypeId} {s x : Operand} {nm n lo2 n2 : Nat} {nd : Node} {d d2 de : TyD} (ht : ty t = some d) (hdesc : d.desc = .slice el) (hel : ty el = some de)
    (ht2 : ty t2 = some d2) (hni : ∀ k, d2.desc ≠ .int k) (hs : ev st s = some (.v (.one (.hdr nm 0 n)))) (hx : ev st x = some (.v (.one (.hdr nm lo2 n2)))) (hn : st.nd nm = some nd) (hsz : nd.sz = de.size)
    (hlo : n ≤ lo2) (hlo2 : lo2 + n2 = nd.es.length) (hd : dok nt dst)
    (k : vl P ty c nt ops rest (((st.setN nm none).add ⟨nd.sz, nd.es.take n ++ nd.es.drop lo2 ++ List.replicate (lo2 - n) (List.replicate nd.sz (.c .any))⟩).put dst (.v (.one (.hdr st.k 0 (n + n2))))) Q) :
    vl P ty c nt ops (⟨dst, .call ⟨.builtin .append, #[s, x], #[t, t2]⟩, tp, pos, after, none⟩ :: rest) st Q := by
  refine vl_val ((st.setN nm none).add ⟨nd.sz, nd.es.take n ++ nd.es.drop lo2 ++ List.replicate (lo2 - n) (List.replicate nd.sz (.c .any))⟩) _ hd (fun a w L F g => ?_) k
  obtain ⟨_, hk, hle, A, hv, hA⟩ := ev_ok g hs
  obtain ⟨_, _, hle2, A2, hv2, hA2⟩ := ev_ok g hx
  obtain ⟨_, hN⟩ := g.sa.node nm nd hn
  obtain ⟨gf, vals, c1, c2, c3, c4, c5, c6⟩ := hN.ex
  have hcl := hN.len
  have hfl := hN.flen
  let xs : List (List X) := nd.es.drop lo2
  have hxl : xs.length = n2 := by simp only [xs, List.length_drop]; omega
  have hwx : ∀ e, e ∈ xs → e.length = nd.sz := fun e he => hN.wid e (List.mem_of_mem_drop he)
  have hfx : xs.flatten.length = n2 * nd.sz := by rw [flatten_length_of_wid hwx, hxl]
  have hold : ∀ p y, xs.flatten[p]? = some y → nd.es.flatten[lo2 * nd.sz + p]? = some y := by
    intro p y hp
    simp only [xs] at hp
    rw [flatten_drop hN.wid (by omega), List.getElem?_drop] at hp
    exact hp
  let news : List Value := (List.range (n2 * nd.sz)).map fun p => vals (lo2 * nd.sz + p)
  have hnl : news.length = n2 * nd.sz := by simp [news]
  have hnj : ∀ j u, news[j]? = some u → u = vals (lo2 * nd.sz + j) := by
    intro j u hj
    have hlt : j < n2 * nd.sz := by rw [← hnl]; exact lt_of_get hj
    simp [news, hlt] at hj; exact hj.symm
  have hone : ∀ u, u ∈ news → u.oneCell' = true := by
    intro u hu
    obtain ⟨j, hj⟩ := List.getElem?_of_mem hu
    have hlt : j < xs.flatten.length := by rw [hfx, ← hnl]; exact lt_of_get hj
    rw [hnj j u hj]
    exact (c2 _ _ (hold j _ (List.getElem?_eq_getElem hlt))).one
  have hfc : (Builtin.firstCells nd.sz n2 (a.eval x)).run P w = .ok news.toArray w := by
    rw [hv2]
    rcases Nat.eq_zero_or_pos n2 with h0 | h0
    · have : news = [] := List.eq_nil_of_length_eq_zero (by rw [hnl, h0]; simp)
      rw [this, h0]; exact run_firstCells_zero
    · rw [hA2 (by omega)]
      refine run_firstCells_at news rfl hnl fun j u hj => ?_
      have hlt : j < xs.flatten.length := by rw [hfx, ← hnl]; exact lt_of_get hj
      rw [hnj j u hj]
      have := c1 _ _ (hold j _ (List.getElem?_eq_getElem hlt))
      rw [show (paddr L nm lo2 0).off + j = (L nm).addr.off + (lo2 * nd.sz + j) by simp only [paddr, hN.sz]; omega]
      exact this
  have hlx : (Builtin.lenOf (a.eval x)).run P w = .ok n2 w := by rw [hv2]; simp [Builtin.lenOf]
  have hexec : ∀ r w', (Builtin.append_ #[t, t2] tp #[a.eval s, a.eval x]).run P w = .ok r w' → (execOp a.eval ⟨dst, .call ⟨.builtin .append, #[s, x], #[t, t2]⟩, tp, pos, after, none⟩).run P w = .ok (.value r) w' := by
    intro r w' h
    simp only [execOp, resolve, List.map_toArray, List.map_cons, List.map_nil, invoke, builtin, Sem.run_bind, Sem.run_pure, Result.andThen_ok, h]
  have hroom : n + n2 ≤ (L nm).cap - 0 := by omega
  have hr := run_append_room' (tp := tp) g.tyok ht hdesc hel ht2 hni A n ((L nm).cap - 0) n2 (a.eval x) news w hlx (by rw [← hsz]; exact hfc) hroom
  have hroom' : n + xs.length ≤ (L nm).cap - 0 := by rw [hxl]; exact hroom
  have hmulc : (n + n2) * nd.sz ≤ (L nm).cap * nd.sz := Nat.mul_le_mul_right _ (by omega)
  have hmulc' : (n + n2) * nd.sz = n * nd.sz + n2 * nd.sz := Nat.add_mul _ _ _
  have hle3 : n * nd.sz ≤ lo2 * nd.sz := Nat.mul_le_mul_right _ hlo
  -- the world behind it
  obtain ⟨w', hst, hfr, hrd⟩ : ∃ w', (∃ r, (Builtin.append_ #[t, t2] tp #[a.eval s, a.eval x]).run P w = .ok r w' ∧ r = .slice A (n + n2) ((L nm).cap - 0)) ∧
      Fr (fun x y => x = (L nm).addr.block ∧ (L nm).addr.off + (0 + n) * nd.sz ≤ y ∧ y < (L nm).addr.off + (0 + n) * nd.sz + news.length) w w' ∧
      (∀ (j : Nat) u, news[j]? = some u → rd w' (L nm).addr.block ((L nm).addr.off + (0 + n) * nd.sz + j) = some u) := by
    by_cases hlt : 0 < (L nm).cap
    · have hA' := hA hlt
      subst hA'
      have hcells : ∀ j, j < news.length → (rd w (L nm).addr.block ((L nm).addr.off + (0 + n) * nd.sz + j)).isSome = true ∧ Vm.fz w (L nm).addr.block ((L nm).addr.off + (0 + n) * nd.sz + j) = false := by
        intro j hj
        rw [Nat.add_assoc]; exact hN.row _ (by rw [Nat.zero_add]; omega)
      obtain ⟨w', hst, hsz', hfr, hrd⟩ := run_storeCells_row (P := P) news w (L nm).addr.block ((L nm).addr.off + (0 + n) * nd.sz) 0 (by simpa using hcells) hone
      refine ⟨w', ⟨_, ?_, rfl⟩, by simpa using hfr, by simpa using hrd⟩
      rw [hv, hr]
      have hadd : (paddr L nm 0 0).add (n * de.size) = ⟨(L nm).addr.block, (L nm).addr.off + (0 + n) * nd.sz, none⟩ := by
        rw [paddr_add]; simp only [paddr, hN.sz, ← hsz]; congr 1; simp
      simp only [hadd, hst, Result.andThen_ok]
    · have h0 : n = 0 ∧ n2 = 0 := by omega
      have hnews : news = [] := List.eq_nil_of_length_eq_zero (by rw [hnl, h0.2]; simp)
      refine ⟨w, ⟨_, ?_, rfl⟩, Fr.refl _ _, by rw [hnews]; simp⟩
      rw [hv, hr, hnews]
      cases A <;> rfl
  obtain ⟨r, hrun, rfl⟩ := hst
  obtain ⟨L', F', g', hx', hlag⟩ := g.roomed2 (lo := 0) hn (by omega) xs news none (fun p => if p < n2 * nd.sz then gf (lo2 * nd.sz + p) else bot) gf vals c1 c2 c3 c4 c5 c6
    (fun p b o hb => by
      split at hb
      · exact .inl ((c6 b o).2 (.inr ⟨_, hb⟩))
      · exact hb.elim) (by simp)
    (fun p q hpq => by
      split
      · split
        · exact c5 _ _ (by omega)
        · exact Emp.bot.disj' _
      · exact Emp.bot.disj _)
    (fun p hp => by rw [if_neg (by omega)]; exact Emp.bot)
    (fun p => by
      split
      · exact c4 _
      · exact Emp.bot.disj _)
    (fun p q hp => by
      split
      · exact c5 _ _ (by omega)
      · exact Emp.bot.disj' _)
    hwx (by rw [hnl, hxl])
    (fun p x' y hx' hy => by
      have hlt : p < n2 * nd.sz := by rw [← hnl]; exact lt_of_get hy
      rw [hnj p y hy, if_pos hlt]; exact c2 _ _ (hold p x' hx')) hroom' hfr hrd (A := A) hA
  rw [hxl] at hx'
  refine ⟨_, w', L', F', hexec _ _ hrun, ?_, hx'⟩
  -- the rows behind are there still
  have hkk : ((st.setN nm none).add ⟨nd.sz, (nd.es.drop 0).take n ++ xs⟩).nd st.k = some ⟨nd.sz, (nd.es.drop 0).take n ++ xs⟩ := by simp [St.add, St.setN]
  obtain ⟨hk1, hN'⟩ := g'.sa.node st.k _ hkk
  have hlen' : ((nd.es.drop 0).take n ++ xs).length = n + n2 := by rw [List.length_append, hxl, List.length_take, List.drop_zero]; omega
  obtain ⟨_, e2, e3, B, e4, e5⟩ := hx'
  injection e4 with e7 _ e6
  rw [Nat.sub_zero, Nat.sub_zero] at e6
  have hmore := hN'.more (lo2 - n) (by rw [hlen', ← e6]; omega) (fun p hp1 hp2 => by
    simp only [hlen'] at hp1 hp2
    rw [show n + n2 + (lo2 - n) = nd.es.length by omega] at hp2
    have hlt : p < nd.es.flatten.length := by rw [hfl]; exact hp2
    have hcap0 : 0 < (L nm).cap := by
      rcases Nat.eq_zero_or_pos (L nm).cap with h | h
      · rw [show nd.es.length = 0 by omega] at hp2; omega
      · exact h
    have hc1 := c1 p _ (List.getElem?_eq_getElem hlt)
    have hpa := e5 (by rw [← e6]; exact hcap0)
    rw [hA hcap0] at e7
    rw [hpa] at e7
    simp only [paddr, Nat.zero_mul, Nat.add_zero, Option.some.injEq, Addr.mk.injEq, and_true] at e7
    rw [← e7.1, ← e7.2]
    refine ⟨vals p, ?_, (c2 p _ (List.getElem?_eq_getElem hlt)).one⟩
    rw [hfr.cell _ _ (rd_lt hc1) (by rw [hnl, Nat.zero_add]; omega)]
    exact hc1)
  have hst2 : ∀ n', ((st.setN nm none).add ⟨nd.sz, nd.es.take n ++ nd.es.drop lo2 ++ List.replicate (lo2 - n) (List.replicate nd.sz (.c .any))⟩).nd n' =
      if n' = st.k then some ⟨nd.sz, nd.es.take n ++ nd.es.drop lo2 ++ List.replicate (lo2 - n) (List.replicate nd.sz (.c .any))⟩ else ((st.setN nm none).add ⟨nd.sz, (nd.es.drop 0).take n ++ xs⟩).nd n' := by
    intro n'
    simp only [St.add, St.setN]
    by_cases hc : n' = st.k
    · subst hc; simp
    · rw [beq_no hc, if_neg hc]; rfl
  refine ⟨g'.tyok, g'.defers, g'.size, g'.lay, ⟨fun n' nd' hn' => ?_, fun n' hn' => ?_, g'.sa.dis, g'.sa.disZ, g'.sa.lt⟩, g'.zle, g'.znew, g'.zfnew, g'.zlt, g'.znf, g'.tm, g'.scope, g'.fr, g'.kf, g'.ok⟩
  · rw [hst2] at hn'
    split at hn'
    · rename_i hc; subst hc; cases hn'
      rw [List.drop_zero] at hmore
      exact ⟨hk1, hmore⟩
    · exact g'.sa.node n' nd' hn'
  · rw [hst2] at hn'
    split at hn'
    · cases hn'
    · exact g'.sa.none n' hn'
theorem q_slice3 {t el : TypeId} {x lo hi mx : Operand} {nm lo0 n : Nat} {k1 k2 k3 : IntKind} {l h m : Int} {d de : TyD} (ht : ty t = some d) (hdesc : d.desc = .slice el) (hel : ty el = some de)
    (hx : ev st x = some (.v (.one (.hdr nm lo0 n)))) (hl : ev st lo = some (vv (.int k1 l))) (hh : ev st hi = some (vv (.int k2 h))) (hm : ev st mx = some (vv (.int k3 m))) (h0 : 0 ≤ l) (h1 : l ≤ h) (h2 : h ≤ m) (h3 : m ≤ n) :
    Qt P ty c nt st dst (.slice t x (some lo) (some hi) (some mx)) tp pos after (.v (.one (.c .any))) := by
  intro a w L F g
  obtain ⟨_, hk, hle, A, hv, hA⟩ := ev_ok g hx
  have hm0 : 0 ≤ m := by omega
  have hh0 : 0 ≤ h := by omega
  have hmc : m ≤ ((L nm).cap - lo0 : Nat) := by omega
  have hb : ∀ w, (Instr.sliceBounds true n ((L nm).cap - lo0) (some (.int k1 l)) (some (.int k2 h)) (some (.int k3 m))).run P w = .ok (l.toNat, h.toNat, m.toNat) w := by
    intro w
    obtain ⟨l', rfl⟩ : ∃ l' : Nat, l = l' := ⟨l.toNat, by omega⟩
    obtain ⟨h', rfl⟩ : ∃ h' : Nat, h = h' := ⟨h.toNat, by omega⟩
    obtain ⟨m', rfl⟩ : ∃ m' : Nat, m = m' := ⟨m.toNat, by omega⟩
    have e0 : m' ≤ (L nm).cap - lo0 := by omega
    have e1 : h' ≤ m' := by omega
    have e2 : l' ≤ h' := by omega
    simp [Instr.sliceBounds, Instr.sliceBound, asIntOf, e0, e1, e2]
  refine ⟨.slice (if m.toNat = l.toNat then A else A.map (·.add (l.toNat * de.size))) (h.toNat - l.toNat) (m.toNat - l.toNat), fun w' _ => ?_, .any _ _ rfl Emp.bot⟩
  simp only [execOp, hv, ev_vv g hl, ev_vv g hh, ev_vv g hm, Option.map_some, Sem.run_bind]
  simp only [Instr.sliceAt, Instr.slice, Sem.run_bind, run_und g.tyok ht, hdesc, Result.andThen_ok, hb, run_size g.tyok hel, Sem.run_pure]
theorem undef_TR (w : World) (L : Lay) (Z : Zn) (k : Nat) : TR w L Z k (.tup []) undef := ⟨[], rfl, rfl, by simp⟩
theorem yielded_undef (g : GX P ty c nt st a w L F) {j d : Nat} {oj : Oper} (hj : ops[j]? = some oj) (hdj : oj.dst = some d) (hb : st.tm d = some (.tup [])) : yielded ops a.tmps j = none := by
  obtain ⟨us, hv, hl, _⟩ := g.tm d _ hb
  have hus : us = [] := List.eq_nil_of_length_eq_zero hl
  subst hus
  rcases Nat.lt_or_ge d a.tmps.size with h | h
  · have : a.tmps[d]? = some (.tuple #[]) := by
      rw [Array.getElem?_eq_getElem h]; simp [Array.getD_eq_getD_getElem?, Array.getElem?_eq_getElem h] at hv; rw [hv]
    simp [yielded, hj, hdj, this]
  · simp [yielded, hj, hdj, Array.getElem?_eq_none h]
theorem vl_goff {op : Op} {j : Nat} {want b : Bool} {oj : Oper} {d : Nat} (hj : ops[j]? = some oj) (hdj : oj.dst = some d) (hb : st.tm d = some (vv (.bool b))) (hne : b ≠ want) (hd : dok nt dst)
    (k : vl P ty c nt ops rest (st.put dst (.tup [])) Q) : vl P ty c nt ops (⟨dst, op, tp, pos, after, some (j, want)⟩ :: rest) st Q := by
  rintro a w ⟨L, F, g⟩
  have hy := yielded_of g hj hdj hb
  unfold wpList
  rw [if_neg (by simp [Region.wanted, hy, hne])]
  exact k _ _ ⟨L, F, g.put (dok_all hd) (undef_TR _ _ _ _)⟩
theorem vl_goffU {op : Op} {j : Nat} {want : Bool} {oj : Oper} {d : Nat} (hj : ops[j]? = some oj) (hdj : oj.dst = some d) (hb : st.tm d = some (.tup [])) (hd : dok nt dst)
    (k : vl P ty c nt ops rest (st.put dst (.tup [])) Q) : vl P ty c nt ops (⟨dst, op, tp, pos, after, some (j, want)⟩ :: rest) st Q := by
  rintro a w ⟨L, F, g⟩
  have hy := yielded_undef g hj hdj hb
  unfold wpList
  rw [if_neg (by simp [Region.wanted, hy])]
  exact k _ _ ⟨L, F, g.put (dok_all hd) (undef_TR _ _ _ _)⟩
theorem va_goff {fuel : Nat} {listed : Array Bool} (i : Nat) {op : Op} {j d : Nat} {want b : Bool} {oj : Oper} (hi : ops[i]? = some ⟨dst, op, tp, pos, after, some (j, want)⟩) (hj : ops[j]? = some oj) (hdj : oj.dst = some d) (hb : st.tm d = some (vv (.bool b)))
    (hne : b ≠ want) (hs : Region.noSelect ops = true) (hf : Region.free .any ops listed i = true) (hr : (Region.ready .any ops listed).contains i = true) (hd : dok nt dst)
    (k : va P ty c nt ops fuel (listed.setIfInBounds i true) (st.put dst (.tup [])) Q) : va P ty c nt ops (fuel + 1) listed st Q := by
  rintro a w ⟨L, F, g⟩
  have hy := yielded_of g hj hdj hb
  exact wpAnyH_take (v := undef) hi hs hf hr (fun _ _ _ h => nomatch h.1) (.inr ⟨by simp [Region.wanted, hy, hne], rfl⟩) g.ag0 (k _ _ ⟨L, F, g.put (dok_all hd) (undef_TR _ _ _ _)⟩)
theorem va_goffU {fuel : Nat} {listed : Array Bool} (i : Nat) {op : Op} {j d : Nat} {want : Bool} {oj : Oper} (hi : ops[i]? = some ⟨dst, op, tp, pos, after, some (j, want)⟩) (hj : ops[j]? = some oj) (hdj : oj.dst = some d) (hb : st.tm d = some (.tup []))
    (hs : Region.noSelect ops = true) (hf : Region.free .any ops listed i = true) (hr : (Region.ready .any ops listed).contains i = true) (hd : dok nt dst)
    (k : va P ty c nt ops fuel (listed.setIfInBounds i true) (st.put dst (.tup [])) Q) : va P ty c nt ops (fuel + 1) listed st Q := by
  rintro a w ⟨L, F, g⟩
  have hy := yielded_undef g hj hdj hb
  exact wpAnyH_take (v := undef) hi hs hf hr (fun _ _ _ h => nomatch h.1) (.inr ⟨by simp [Region.wanted, hy], rfl⟩) g.ag0 (k _ _ ⟨L, F, g.put (dok_all hd) (undef_TR _ _ _ _)⟩)
theorem va_twog {fuel : Nat} {listed : Array Bool} (i : Nat) {op : Op} {x : Bool → T} (b : Bool) {j d : Nat} {want : Bool} {oj : Oper} (hi : ops[i]? = some ⟨dst, op, tp, pos, after, some (j, want)⟩) (hj : ops[j]? = some oj) (hdj : oj.dst = some d) (hb : st.tm d = some (vv (.bool want)))
    (hs : Region.noSelect ops = true) (hf : Region.free .any ops listed i = true) (hr : (Region.ready .any ops listed).contains i = true) (q : Qt P ty c nt st dst op tp pos after (x b)) (hd : dok nt dst)
    (kt : b = true → va P ty c nt ops fuel (listed.setIfInBounds i true) (st.put dst (x true)) Q) (kf : b = false → va P ty c nt ops fuel (listed.setIfInBounds i true) (st.put dst (x false)) Q) :
    va P ty c nt ops (fuel + 1) listed st Q := by
  cases b with
  | true => exact va_qg i hi hj hdj hb hs hf hr q hd (kt rfl)
  | false => exact va_qg i hi hj hdj hb hs hf hr q hd (kf rfl)
end
end Go.Vm
namespace Go.Vm.S
open Go Go.Vm

structure Held where
  fr : Int
  id : Int
  cnt : Int
  parts : List ByteArray
  hav : List Bool
  til : Int
noncomputable instance : DecidableEq Held := fun _ _ => Classical.propDecidable _
def heldC (h : Held) : List C := [.val (.int .i64 h.fr), .val (.int .i64 h.id), .val (.int .i64 h.cnt), .sh 1 (h.parts.map strC), .sh 1 (h.hav.map boolC), .val (.int .i64 h.til)]
def shelfC (l : List Held) : List C := [.sh 6 (l.map heldC)]

/-- the same, its arrays owned -/
def heldO (h : Held) : List C := [.val (.int .i64 h.fr), .val (.int .i64 h.id), .val (.int .i64 h.cnt), .own 1 (h.parts.map strC), .own 1 (h.hav.map boolC), .val (.int .i64 h.til)]
def heldZ : List C := [.val (.int .i64 0), .val (.int .i64 0), .val (.int .i64 0), .val (.slice none 0 0), .val (.slice none 0 0), .val (.int .i64 0)]
theorem strC_shr (s : ByteArray) : (strC s).map C.shr = strC s := by simp [strC, C.shr_val]
theorem boolC_shr (b : Bool) : (boolC b).map C.shr = boolC b := by simp [boolC, C.shr_val]
theorem heldO_shr (h : Held) : (heldO h).map C.shr = heldC h := by
  simp only [heldO, heldC, List.map_cons, List.map_nil, C.shr_val, C.shr_own, List.map_map, Function.comp_def, strC_shr, boolC_shr]
theorem heldsO_shr (l : List Held) : (l.map heldO).map (List.map C.shr) = l.map heldC := by
  rw [List.map_map]; exact List.map_congr_left fun h _ => heldO_shr h
theorem heldO_noSh (h : Held) : (heldO h).all C.noSh = true := by
  simp [heldO, C.noSh_val, C.noSh_own, strC_noSh, boolC_noSh]
theorem heldO_noZ (h : Held) : (heldO h).all C.noZ = true := by
  simp [heldO, C.noZ_val, C.noZ_own, strC, boolC]
theorem heldO_len (h : Held) : (heldO h).length = 6 := rfl
/-- a value that is open: its arrays under names -/
def heldV (h : Held) (a b : Nat) : V := .agg [.c (.val (.int .i64 h.fr)), .c (.val (.int .i64 h.id)), .c (.val (.int .i64 h.cnt)), .hdr a 0 h.parts.length, .hdr b 0 h.hav.length, .c (.val (.int .i64 h.til))]
theorem held_ext {a b : Held} (h1 : a.fr = b.fr) (h2 : a.id = b.id) (h3 : a.cnt = b.cnt) (h4 : a.parts = b.parts) (h5 : a.hav = b.hav) (h6 : a.til = b.til) : a = b := by
  cases a; cases b; simp only at h1 h2 h3 h4 h5 h6; subst h1; subst h2; subst h3; subst h4; subst h5; subst h6; rfl
def strOk (s : ByteArray) : Prop := s.size < 9223372036854775808
def szStrs (l : List ByteArray) : Nat := l.length + sumOf ByteArray.size l
def szHeld (h : Held) : Nat := szStrs h.parts + h.hav.length
def szHelds (l : List Held) : Nat := l.length + sumOf szHeld l
def strsOk (l : List ByteArray) : Prop := ∀ s, s ∈ l → s.size < 9223372036854775808
def heldOk (h : Held) : Prop := strsOk h.parts
def heldsOk (l : List Held) : Prop := ∀ h, h ∈ l → heldOk h
theorem heldC_shr (h : Held) : (heldC h).map C.shr = heldC h := by
  simp only [heldC, List.map_cons, List.map_nil, C.shr_val, C.shr_sh, List.map_map, Function.comp_def, strC_shr, boolC_shr]
theorem heldsC_shr (l : List Held) : (l.map heldC).map (List.map C.shr) = l.map heldC := by
  rw [List.map_map]; exact List.map_congr_left fun h _ => heldC_shr h
/-- what is kept of a shelf -/
def kept (now : Int) (l : List Held) : List Held := l.filter fun h => decide (now < h.til)
theorem kept_succ_t {now : Int} {l : List Held} {i : Nat} (h : i < l.length) (ht : now < l[i].til) : kept now (l.take (i + 1)) = kept now (l.take i) ++ [l[i]] := by
  unfold kept; rw [List.take_add_one, List.getElem?_eq_getElem h, Option.toList_some, List.filter_append]; simp [ht]
theorem kept_succ_f {now : Int} {l : List Held} {i : Nat} (h : i < l.length) (ht : l[i].til ≤ now) : kept now (l.take (i + 1)) = kept now (l.take i) := by
  unfold kept; rw [List.take_add_one, List.getElem?_eq_getElem h, Option.toList_some, List.filter_append]; simp; omega
theorem kept_len (now : Int) (l : List Held) (i : Nat) : (kept now (l.take i)).length ≤ l.length := by
  have h1 := List.length_filter_le (fun h : Held => decide (now < h.til)) (l.take i)
  simp only [List.length_take] at h1; unfold kept; omega
/-- the rows in the midst of a delete: what is kept of the first j, junk, the rest -/
def anyR : List C := List.replicate 6 .any
def djR (now : Int) (l : List Held) (j : Nat) : List (List C) := (kept now (l.take j)).map heldO ++ (List.replicate (j - (kept now (l.take j)).length) anyR ++ (l.drop j).map heldO)
theorem kept_le (now : Int) (l : List Held) (j : Nat) : (kept now (l.take j)).length ≤ j := by
  have h1 := List.length_filter_le (fun h : Held => decide (now < h.til)) (l.take j)
  simp only [List.length_take] at h1; unfold kept; omega
theorem djR_len (now : Int) {l : List Held} {j : Nat} (h : j ≤ l.length) : (djR now l j).length = l.length := by
  have := kept_le now l j
  simp [djR]; omega
theorem djR_at (now : Int) {l : List Held} {j : Nat} (h : j < l.length) : (clo (djR now l j))[j]? = some ((heldO l[j]).map X.c) := by
  have := kept_le now l j
  simp only [clo, List.getElem?_map]
  have : (djR now l j)[j]? = some (heldO l[j]) := by
    unfold djR
    rw [List.getElem?_append_right (by simp; omega), List.getElem?_append_right (by simp)]
    simp only [List.length_map, List.length_replicate]
    rw [show j - (kept now (l.take j)).length - (j - (kept now (l.take j)).length) = 0 by omega, List.getElem?_map, List.getElem?_drop, Nat.add_zero, List.getElem?_eq_getElem h]; rfl
  rw [this]; rfl
theorem djR_wid (now : Int) (l : List Held) (j : Nat) : ∀ e, e ∈ djR now l j → e.length = 6 := by
  intro e he
  unfold djR at he
  rcases List.mem_append.1 he with h | h
  · obtain ⟨x, _, rfl⟩ := List.mem_map.1 h; rfl
  · rcases List.mem_append.1 h with h | h
    · rw [List.eq_of_mem_replicate h]; rfl
    · obtain ⟨x, _, rfl⟩ := List.mem_map.1 h; rfl
theorem list_ext {α : Type} {a b : List α} (hl : a.length = b.length) (h : ∀ i, i < a.length → a[i]? = b[i]?) : a = b := by
  apply List.ext_getElem? ; intro i
  by_cases hi : i < a.length
  · exact h i hi
  · rw [List.getElem?_eq_none (by omega), List.getElem?_eq_none (by omega)]
/-- a row that is not kept -/
theorem djR_drop {now : Int} {l : List Held} {j : Nat} (h : j < l.length) (ht : l[j].til ≤ now) : (clo (djR now l j)).set j (List.replicate 6 (X.c .any)) = clo (djR now l (j + 1)) := by
  have hk := kept_le now l j
  have : (List.replicate 6 (X.c .any)) = anyR.map X.c := by simp [anyR]
  rw [this]
  unfold djR
  rw [kept_succ_f h ht]
  simp only [clo, List.map_append, List.map_map]
  rw [List.set_append_right _ _ (by simp; omega), List.set_append_right _ _ (by simp)]
  simp only [List.length_map, List.length_replicate, List.map_replicate]
  rw [show j - (kept now (l.take j)).length - (j - (kept now (l.take j)).length) = 0 by omega, List.drop_eq_getElem_cons h, List.map_cons, List.set_cons_zero,
    show j + 1 - (kept now (l.take j)).length = (j - (kept now (l.take j)).length) + 1 by omega, List.replicate_succ']
  simp
/-- a row that is kept -/
theorem djR_keep {now : Int} {l : List Held} {j : Nat} (h : j < l.length) (ht : now < l[j].til) (hlt : (kept now (l.take j)).length < j) :
    ((clo (djR now l j)).set (kept now (l.take j)).length ((heldO l[j]).map X.c)).set j (List.replicate 6 (X.c .any)) = clo (djR now l (j + 1)) := by
  have : (List.replicate 6 (X.c .any)) = anyR.map X.c := by simp [anyR]
  rw [this]
  obtain ⟨m, hm⟩ : ∃ m, j - (kept now (l.take j)).length = m + 1 := ⟨j - (kept now (l.take j)).length - 1, by omega⟩
  unfold djR
  rw [kept_succ_t h ht, hm]
  simp only [clo, List.map_append, List.map_map, List.length_append, List.length_cons, List.length_nil]
  rw [List.set_append_right _ _ (by simp)]
  simp only [List.length_map, Nat.sub_self, List.replicate_succ, List.map_cons, List.cons_append, List.set_cons_zero]
  rw [List.set_append_right _ _ (by simp; omega)]
  simp only [List.length_map]
  rw [hm, List.set_cons_succ, List.set_append_right _ _ (by simp)]
  simp only [List.length_map, List.length_replicate, Nat.sub_self]
  rw [List.drop_eq_getElem_cons h, List.map_cons, List.set_cons_zero, show j + 1 - ((kept now (l.take j)).length + (0 + 1)) = m + 1 by omega, List.replicate_succ']
  simp
theorem djR_gap {now : Int} {l : List Held} {j : Nat} (hlt : (kept now (l.take j)).length < j) : (clo (djR now l j))[(kept now (l.take j)).length]? = some (List.replicate 6 (X.c .any)) := by
  unfold djR clo
  rw [List.getElem?_map, List.getElem?_append_right (by simp), List.length_map, Nat.sub_self, List.getElem?_append_left (by simp; omega), List.getElem?_replicate, if_pos (by omega)]
  simp [anyR]
theorem djR_end (now : Int) (l : List Held) : (clo (djR now l l.length)).take (kept now l).length = clo ((kept now l).map heldO) := by
  unfold djR clo
  rw [List.take_length, List.map_append, List.take_left' (by simp)]
/-- the first that is due, or -1 -/
def dueIdx (now : Int) (l : List Held) : Nat := l.findIdx fun h => decide (h.til ≤ now)
def dueV (now : Int) (l : List Held) : Int := if dueIdx now l < l.length then dueIdx now l else -1
theorem due_at {now : Int} {l : List Held} {i : Nat} (h : i < l.length) (hb : ∀ j (hj : j < l.length), j < i → now < l[j].til) (ht : l[i].til ≤ now) : dueV now l = i := by
  have : dueIdx now l = i := (List.findIdx_eq h).2 ⟨decide_eq_true ht, fun j hj => decide_eq_false (by have := hb j (by omega) hj; omega)⟩
  unfold dueV; rw [this, if_pos h]
theorem due_none {now : Int} {l : List Held} (hb : ∀ j (hj : j < l.length), now < l[j].til) : dueV now l = -1 := by
  have : dueIdx now l = l.length := List.findIdx_eq_length.2 fun x hx => by
    obtain ⟨j, hj, rfl⟩ := List.getElem_of_mem hx
    have := hb j hj; simp; omega
  unfold dueV; rw [this, if_neg (by omega)]
theorem due_cases (now : Int) (l : List Held) : (dueV now l = -1 ∧ kept now l = l) ∨ ∃ (h : dueIdx now l < l.length), dueV now l = dueIdx now l ∧ l[dueIdx now l].til ≤ now ∧ kept now (l.take (dueIdx now l)) = l.take (dueIdx now l) := by
  by_cases h : dueIdx now l < l.length
  · refine .inr ⟨h, by unfold dueV; rw [if_pos h], ?_, ?_⟩
    · have := List.findIdx_getElem (p := fun h : Held => decide (h.til ≤ now)) (w := h)
      exact of_decide_eq_true this
    · unfold kept
      rw [List.filter_eq_self]
      intro x hx
      obtain ⟨j, hj, rfl⟩ := List.getElem_of_mem hx
      simp only [List.length_take] at hj
      have hlt : j < List.findIdx (fun h : Held => decide (h.til ≤ now)) l := by unfold dueIdx at hj; omega
      have := List.not_of_lt_findIdx hlt
      rw [List.getElem_take]
      simp at this ⊢; exact this
  · refine .inl ⟨by unfold dueV; rw [if_neg h], ?_⟩
    unfold kept
    rw [List.filter_eq_self]
    intro x hx
    have h2 : dueIdx now l = l.length := by have := List.findIdx_le_length (p := fun h : Held => decide (h.til ≤ now)) (xs := l); unfold dueIdx at *; omega
    have := List.findIdx_eq_length.1 h2 x hx
    simp at this ⊢; exact this
theorem djR_start {now : Int} {l : List Held} {i : Nat} (h : i < l.length) (ht : l[i].til ≤ now) (hk : kept now (l.take i) = l.take i) : (clo (l.map heldO)).set i (List.replicate 6 (X.c .any)) = clo (djR now l (i + 1)) := by
  rw [← djR_drop h ht]
  have : djR now l i = l.map heldO := by
    unfold djR
    rw [hk, List.length_take, Nat.min_eq_left (by omega), Nat.sub_self]
    simp only [List.replicate_zero, List.nil_append]
    rw [← List.map_append, List.take_append_drop]
  rw [this]
theorem kept_start {now : Int} {l : List Held} {i : Nat} (h : i < l.length) (ht : l[i].til ≤ now) (hk : kept now (l.take i) = l.take i) : (kept now (l.take (i + 1))).length = i := by
  rw [kept_succ_f h ht, hk, List.length_take]; omega
/-- marks -/
def wH (h : Held) : Nat := 4 + h.parts.length + h.hav.length
def markH (k : Int) (h : Held) : Held := ⟨k, k + 1, k + 1 + 1, mkS (k + 1 + 1 + 1) h.parts.length, mkB (k + 1 + 1 + 1 + h.parts.length) h.hav.length, k + 1 + 1 + 1 + h.parts.length + h.hav.length⟩
def markHs (k : Int) : List Held → List Held
  | [] => []
  | h :: t => markH k h :: markHs (k + (wH h : Nat)) t
theorem markHs_len (k : Int) (l : List Held) : (markHs k l).length = l.length := by
  induction l generalizing k with
  | nil => rfl
  | cons h t ih => simp [markHs, ih]
theorem markHs_at (k : Int) (l : List Held) {i : Nat} (h : i < l.length) : (markHs k l)[i]? = some (markH (k + (sumTo wH l i : Nat)) l[i]) := by
  induction l generalizing k i with
  | nil => simp at h
  | cons x t ih =>
    cases i with
    | zero => simp [markHs, sumTo_zero]
    | succ i =>
      simp only [markHs, List.getElem?_cons_succ, List.getElem_cons_succ]
      rw [ih _ (by simpa using h)]
      congr 2
      simp only [sumTo, List.take_succ_cons, List.map_cons, List.sum_cons]
      omega
theorem sumOf_filter_le {α : Type} (f : α → Nat) (p : α → Bool) (l : List α) : sumOf f (l.filter p) ≤ sumOf f l := by
  unfold sumOf
  induction l with
  | nil => simp
  | cons a t ih =>
    rw [List.filter_cons]
    split <;> simp only [List.map_cons, List.sum_cons] <;> omega
theorem kept_sz (now : Int) (l : List Held) : szHelds (kept now l) ≤ szHelds l := by
  unfold szHelds kept
  have h1 := List.length_filter_le (fun h : Held => decide (now < h.til)) l
  have h2 := sumOf_filter_le szHeld (fun h : Held => decide (now < h.til)) l
  omega
theorem wH_sum_le (l : List Held) : sumOf wH l ≤ 4 * szHelds l := by
  unfold szHelds sumOf
  induction l with
  | nil => simp
  | cons a t ih =>
    simp only [List.map_cons, List.sum_cons, List.length_cons]
    have : wH a ≤ 4 + 4 * szHeld a := by unfold wH szHeld szStrs; omega
    omega
theorem markHs_w (k : Int) (l : List Held) : sumOf wH (markHs k l) = sumOf wH l := by
  unfold sumOf
  induction l generalizing k with
  | nil => rfl
  | cons a t ih =>
    simp only [markHs, List.map_cons, List.sum_cons, ih]
    have : wH (markH k a) = wH a := by simp [wH, markH, mkS_len, mkB_len]
    omega
theorem markHs_idem (k : Int) (l : List Held) : markHs k (markHs k l) = markHs k l := by
  induction l generalizing k with
  | nil => rfl
  | cons a t ih =>
    simp only [markHs]
    have h1 : wH (markH k a) = wH a := by simp [wH, markH, mkS_len, mkB_len]
    rw [h1, ih]
    congr 1
    simp [markH, mkS_len, mkB_len]
end Go.Vm.S
namespace Go.Vm
open Go
section
variable {P : Program} {ty : Ty} {c : Ctx} {nt : Nat} {st : St}
variable {dst : Option Nat} {tp : TypeId} {pos : String} {after : Array Edge}
theorem q_max {ts : Array TypeId} {x y : Operand} {kd kd' : IntKind} {m n : Int} (hx : ev st x = some (vv (.int kd m))) (hy : ev st y = some (vv (.int kd' n))) :
    Qt P ty c nt st dst (.call ⟨.builtin .max, #[x, y], ts⟩) tp pos after (vv (.int kd (if n > m then n else m))) := by
  intro a w L F g
  refine ⟨_, fun w' _ => ?_, vv_TR rfl⟩
  simp [execOp, resolve, ev_vv g hx, ev_vv g hy, invoke, builtin, Builtin.max_, Builtin.max2]
theorem q_maxr {ts : Array TypeId} {x y : Operand} {kd kd' : IntKind} {m n r : Int} (hx : ev st x = some (vv (.int kd m))) (hy : ev st y = some (vv (.int kd' n))) (hr : (if n > m then n else m) = r) :
    Qt P ty c nt st dst (.call ⟨.builtin .max, #[x, y], ts⟩) tp pos after (vv (.int kd r)) := by subst hr; exact q_max hx hy
theorem q_minr {ts : Array TypeId} {x y : Operand} {kd kd' : IntKind} {m n r : Int} (hx : ev st x = some (vv (.int kd m))) (hy : ev st y = some (vv (.int kd' n))) (hr : (if n < m then n else m) = r) :
    Qt P ty c nt st dst (.call ⟨.builtin .min, #[x, y], ts⟩) tp pos after (vv (.int kd r)) := by subst hr; exact q_min (t := tp) hx hy
end
end Go.Vm
namespace Go.Vm.S
open Go Go.Vm

def byteC (n : Int) : List C := [.val (.int .u8 n)]
theorem byteC_noSh (n : Int) : (byteC n).all C.noSh = true := by simp [byteC, C.noSh_val]
theorem byteC_len (n : Int) : (byteC n).length = 1 := rfl
theorem byteC_noZ (n : Int) : (byteC n).all C.noZ = true := rfl
theorem clo_bytes (l : List Int) : clo (l.map byteC) = l.map byteX := by simp [clo, byteC, byteX]
theorem byteC_shr (n : Int) : (byteC n).map C.shr = byteC n := rfl
theorem bstr_size (l : List Int) : (bstr l).size = l.length := by
  unfold bstr
  have : ∀ (l : List Int) (r : ByteArray), (l.foldl (fun r n => r.push (UInt8.ofNat n.toNat)) r).size = r.size + l.length := by
    intro l
    induction l with
    | nil => intro r; rfl
    | cons a l ih => intro r; rw [List.foldl_cons, ih, ByteArray.size_push, List.length_cons]; omega
  rw [this]; show 0 + _ = _; omega
structure Dr where
  bs : List Int
  ok : bs.length ≤ 1048576
  pos : Nat
  h : Int
def drN (d : Dr) : Node := ⟨3, clo [[.fz 1 (d.bs.map byteC), .val (.int .i64 d.pos), .val (.int .i64 d.h)]]⟩
theorem drN_ns (d : Dr) : nsN (drN d) := nsN_clo (fun e he => by
  rw [List.mem_singleton.1 he]
  simp only [List.all_cons, List.all_nil, C.noSh_val, C.noSh_fz, Bool.and_true, List.all_map, List.all_eq_true]
  intro x _; exact byteC_noSh x)
theorem bit_low (x : Int) (m : Nat) (hm : m < 4294967296) : 0 ≤ bitv .and .i64 x m ∧ bitv .and .i64 x m ≤ m := by
  have h1 : (BitVec.ofInt 64 x &&& BitVec.ofInt 64 (m : Int)).toNat ≤ m := by
    rw [BitVec.toNat_and]
    refine Nat.le_trans Nat.and_le_right ?_
    rw [BitVec.ofInt_natCast, BitVec.toNat_ofNat]
    exact Nat.mod_le _ _
  have h2 : bitv .and .i64 x m = IntKind.i64.wrap ((BitVec.ofInt 64 x &&& BitVec.ofInt 64 (m : Int)).toNat : Int) := rfl
  rw [h2, IntWalk.i64_in _ (by omega)]
  omega
def dMix (h : Int) : Int := IntKind.i64.wrap (IntKind.i64.wrap (h * 6364136223846793005) + 1442695040888963407)
def dTop (h : Int) : Int := bitv .and .i64 (bitv .xor .i64 (h.fdiv (2 ^ (min (33 : Int).toNat 64))) (h.fdiv (2 ^ (min (45 : Int).toNat 64)))) 255
def dByte (d : Dr) : Int × Dr :=
  if h : d.pos < d.bs.length then (bitv .and .i64 (IntKind.i64.wrap (dTop (dMix d.h) + IntKind.i64.wrap d.bs[d.pos])) 255, ⟨d.bs, d.ok, d.pos + 1, dMix d.h⟩)
  else (dTop (dMix d.h), ⟨d.bs, d.ok, d.pos, dMix d.h⟩)
theorem dByte_t {d : Dr} (h : d.pos < d.bs.length) : dByte d = (bitv .and .i64 (IntKind.i64.wrap (dTop (dMix d.h) + IntKind.i64.wrap d.bs[d.pos])) 255, ⟨d.bs, d.ok, d.pos + 1, dMix d.h⟩) := dif_pos h
theorem dByte_f {d : Dr} (h : ¬ d.pos < d.bs.length) : dByte d = (dTop (dMix d.h), ⟨d.bs, d.ok, d.pos, dMix d.h⟩) := dif_neg h
theorem dByte_lt (d : Dr) : 0 ≤ (dByte d).1 ∧ (dByte d).1 ≤ 255 := by
  by_cases h : d.pos < d.bs.length
  · rw [dByte_t h]; exact bit_low _ 255 (by omega)
  · rw [dByte_f h]; exact bit_low _ 255 (by omega)
def dBelow (d : Dr) (n : Int) : Int × Dr :=
  if n ≤ 0 then (0, d) else if n ≤ 256 then ((dByte d).1.tmod n, (dByte d).2)
  else (((dByte d).1 * 16777216 + (dByte (dByte d).2).1 * 65536 + (dByte (dByte (dByte d).2).2).1 * 256 + (dByte (dByte (dByte (dByte d).2).2).2).1).tmod n, (dByte (dByte (dByte (dByte d).2).2).2).2)
theorem dBelow_z {d : Dr} {n : Int} (h : n ≤ 0) : dBelow d n = (0, d) := if_pos h
theorem dBelow_s {d : Dr} {n : Int} (h : 0 < n) (h2 : n ≤ 256) : dBelow d n = ((dByte d).1.tmod n, (dByte d).2) := by
  unfold dBelow; rw [if_neg (by omega), if_pos h2]
theorem dBelow_l {d : Dr} {n : Int} (h2 : 256 < n) : dBelow d n = (((dByte d).1 * 16777216 + (dByte (dByte d).2).1 * 65536 + (dByte (dByte (dByte d).2).2).1 * 256 + (dByte (dByte (dByte (dByte d).2).2).2).1).tmod n, (dByte (dByte (dByte (dByte d).2).2).2).2) := by
  unfold dBelow; rw [if_neg (by omega), if_neg (by omega)]
theorem tmod_in {x n : Int} (hx : 0 ≤ x) (hn : 0 < n) : 0 ≤ x.tmod n ∧ x.tmod n < n := ⟨Int.tmod_nonneg n hx, Int.tmod_lt_of_pos x hn⟩
theorem dBelow_lt (d : Dr) {n : Int} (hn : 0 < n) : 0 ≤ (dBelow d n).1 ∧ (dBelow d n).1 < n := by
  have h1 := dByte_lt d
  have h2 := dByte_lt (dByte d).2
  have h3 := dByte_lt (dByte (dByte d).2).2
  have h4 := dByte_lt (dByte (dByte (dByte d).2).2).2
  by_cases h : n ≤ 256
  · rw [dBelow_s hn h]; exact tmod_in h1.1 hn
  · rw [dBelow_l (by omega)]; exact tmod_in (by omega) hn
/-- n bytes -/
def txS (d : Dr) : Nat → List Int × Dr
  | 0 => ([], d)
  | i + 1 => ((txS d i).1 ++ [IntKind.u8.wrap (dByte (txS d i).2).1], (dByte (txS d i).2).2)
theorem txS_len (d : Dr) (i : Nat) : (txS d i).1.length = i := by
  induction i with
  | zero => rfl
  | succ i ih => rw [txS, List.length_append, ih]; rfl
theorem txS_next (d : Dr) (i : Nat) : ((clo ((txS d i).1.map byteC)).drop 0).take i ++ [[X.c (.val (.int .u8 (IntKind.u8.wrap (dByte (txS d i).2).1)))]] = clo ((txS d (i + 1)).1.map byteC) := by
  have hl : (clo ((txS d i).1.map byteC)).length = i := by simp [clo, txS_len]
  rw [List.drop_zero, List.take_of_length_le (by omega)]
  simp [txS, clo, byteC]
def dText (d : Dr) (n : Nat) : ByteArray × Dr := (bstr (txS d n).1, (txS d n).2)
theorem dText_size (d : Dr) (n : Nat) : (dText d n).1.size = n := by unfold dText; rw [bstr_size, txS_len]
/-- twelve numbers under m -/
def blS (d : Dr) (m : Int) : Nat → List Int × Dr
  | 0 => ([], d)
  | i + 1 => ((blS d m i).1 ++ [(dBelow (blS d m i).2 m).1], (dBelow (blS d m i).2 m).2)
theorem blS_len (d : Dr) (m : Int) (i : Nat) : (blS d m i).1.length = i := by
  induction i with
  | zero => rfl
  | succ i ih => rw [blS, List.length_append, ih]; rfl
theorem blS_in (d : Dr) {m : Int} (hm : 0 < m) (i : Nat) : ∀ x, x ∈ (blS d m i).1 → 0 ≤ x ∧ x < m := by
  induction i with
  | zero => intro x hx; simp [blS] at hx
  | succ i ih =>
    intro x hx
    rw [blS] at hx
    rcases List.mem_append.1 hx with h | h
    · exact ih x h
    · rw [List.mem_singleton.1 h]; exact dBelow_lt _ hm
theorem blS_next (d : Dr) (m : Int) (i : Nat) : ((clo ((blS d m i).1.map intC)).drop 0).take i ++ [[X.c (.val (.int .i64 (dBelow (blS d m i).2 m).1))]] = clo ((blS d m (i + 1)).1.map intC) := by
  have hl : (clo ((blS d m i).1.map intC)).length = i := by simp [clo, blS_len]
  rw [List.drop_zero, List.take_of_length_le (by omega)]
  simp [blS, clo, intC]
/-- the beginning of a draw -/
def hS (bs : List Int) (h0 : Int) : Nat → Int
  | 0 => h0
  | i + 1 => bitv .and .i64 (IntKind.i64.wrap (IntKind.i64.wrap (IntKind.i64.wrap (hS bs h0 i * 131) + IntKind.i64.wrap (bs.getD i 0)) + 7)) 1073741823
def dNew (bs : List Int) (ok : bs.length ≤ 1048576) : Dr := ⟨bs, ok, 0, hS bs (36201 + bs.length) (min bs.length 4000)⟩
theorem fill_next {n i : Nat} {x : Int} (h : i < n) {j : Nat} (hj : j = i := by rfl) {e : List X} (he : e = (byteC x).map X.c := by rfl) :
    (clo (List.replicate i (byteC x) ++ List.replicate (n - i) (byteC 0))).set j e = clo (List.replicate (i + 1) (byteC x) ++ List.replicate (n - (i + 1)) (byteC 0)) := by
  subst hj; subst he
  obtain ⟨m, rfl⟩ : ∃ m, n = j + (m + 1) := ⟨n - j - 1, by omega⟩
  rw [show j + (m + 1) - j = m + 1 by omega, show j + (m + 1) - (j + 1) = m by omega]
  simp only [clo, List.map_append, List.map_replicate, List.replicate_succ' (n := j), List.replicate_succ (n := m)]
  rw [List.set_append_right _ _ (by simp)]
  simp
theorem fill_get {n i : Nat} {x : Int} (h : i < n) : (clo (List.replicate i (byteC x) ++ List.replicate (n - i) (byteC 0)))[i]? = some ((byteC 0).map X.c) := by
  obtain ⟨m, rfl⟩ : ∃ m, n = i + (m + 1) := ⟨n - i - 1, by omega⟩
  rw [clo, List.getElem?_map, List.getElem?_append_right (by simp), show i + (m + 1) - i = m + 1 by omega, List.replicate_succ]
  simp
theorem getD_in {α : Type} {l : List α} {i : Nat} {z : α} (h : i < l.length) : l.getD i z = l[i] := by simp [List.getD, h]
def longL : List Int := [0, 10, 20, 40, 55, 90, 200]
def longN (d : Dr) : Nat := (longL.getD (dBelow d 7).1.toNat 0).toNat
theorem longN_eq (d : Dr) : longL.getD (dBelow d (longL.length : Nat)).1.toNat 0 = (longN d : Int) := by
  show longL.getD (dBelow d 7).1.toNat 0 = _
  unfold longN
  generalize (dBelow d 7).1.toNat = k
  match k with
  | 0 | 1 | 2 | 3 | 4 | 5 | 6 => rfl
  | k + 7 => simp [longL]
theorem longN_le (d : Dr) : longN d ≤ 200 := by
  unfold longN
  generalize (dBelow d 7).1.toNat = k
  match k with
  | 0 | 1 | 2 | 3 | 4 | 5 | 6 => decide
  | k + 7 => simp [longL]
def dLong (d : Dr) : ByteArray × Dr :=
  let a := dBelow d 9
  let b := dText a.2 a.1.toNat
  let c := dBelow b.2 7
  let e := dBelow c.2 9
  (b.1 ++ bstr (List.replicate (longN b.2) (IntKind.u8.wrap (65 + e.1))), e.2)
theorem dLong_eq {d : Dr} {k : Nat} (h : (dBelow d 9).1.toNat = k) :
    dLong d = ((dText (dBelow d 9).2 k).1 ++ bstr (List.replicate (longN (dText (dBelow d 9).2 k).2) (IntKind.u8.wrap (65 + (dBelow (dBelow (dText (dBelow d 9).2 k).2 7).2 9).1))), (dBelow (dBelow (dText (dBelow d 9).2 k).2 7).2 9).2) := by
  subst h; rfl
theorem hS_tm {bs : List Int} {h0 : Int} {i : Nat} (h : i < bs.length) : some (Vm.T.v (iv (bitv .and .i64 (IntKind.i64.wrap (IntKind.i64.wrap (IntKind.i64.wrap (hS bs h0 i * 131) + IntKind.i64.wrap bs[i]) + 7)) 1073741823))) = some (Vm.T.v (iv (hS bs h0 (i + 1)))) := by
  rw [hS, getD_in h]
/-- the places -/
def dBelow0 (bs : List Int) (ok : bs.length ≤ 1048576) : Dr := (dByte (dNew bs ok)).2
/-- the long text, the word and the size -/
def dlD (bs : List Int) (ok : bs.length ≤ 1048576) : Dr := dNew bs ok
def dlText (d : Dr) : ByteArray := (dLong d).1
def dlId (d : Dr) : Int := (dBelow (dLong d).2 256).1
def dlSz (d : Dr) : Int := 20 + (dBelow (dBelow (dLong d).2 256).2 40).1
theorem hS_nn (bs : List Int) (h0 : Int) (i : Nat) (k : Int) (hk : hS bs h0 i = k) : hS bs h0 (i + 1) = bitv .and .i64 (IntKind.i64.wrap (IntKind.i64.wrap (IntKind.i64.wrap (k * 131) + IntKind.i64.wrap (bs.getD i 0)) + 7)) 1073741823 := by rw [hS, hk]
theorem dLong_size (d : Dr) : (dLong d).1.size ≤ 208 := by
  unfold dLong
  simp only [ByteArray.size_append, dText_size, bstr_size, List.length_replicate]
  have h1 := dBelow_lt d (n := 9) (by omega)
  have h2 := longN_le (dText (dBelow d 9).2 (dBelow d 9).1.toNat).2
  omega
end Go.Vm.S
namespace Go.Vm.S
open Go Go.Vm
def t2 : TyD := ⟨false, 1, [.int .i64 0], 8, .int .i64⟩
def t3 : TyD := ⟨false, 1, [.int .i64 0], 8, .int .i64⟩
def t4 : TyD := ⟨false, 1, [.bool false], 1, .bool⟩
def t5 : TyD := ⟨false, 1, [.int .u8 0], 1, .int .u8⟩
def t6 : TyD := ⟨false, 1, [.int .u8 0], 1, .int .u8⟩
def t7 : TyD := ⟨true, 4, [.int .i64 0, .int .i64 0, .bool false, .int .u8 0], 24, .struct #[Field.mk "x" 2 0 false "" "runtime" 0, Field.mk "y" 3 1 false "" "runtime" 8, Field.mk "signed" 4 2 false "" "runtime" 16, Field.mk "code" 6 3 false "" "runtime" 17]⟩
def t8 : TyD := ⟨true, 4, [.int .i64 0, .int .i64 0, .bool false, .int .u8 0], 24, .struct #[Field.mk "x" 2 0 false "" "runtime" 0, Field.mk "y" 3 1 false "" "runtime" 8, Field.mk "signed" 4 2 false "" "runtime" 16, Field.mk "code" 6 3 false "" "runtime" 17]⟩
def t9 : TyD := ⟨false, 1, [.string ⟨#[]⟩], 16, .string⟩
def t10 : TyD := ⟨false, 1, [.string ⟨#[]⟩], 16, .string⟩
def t11 : TyD := ⟨false, 1, [.string ⟨#[]⟩], 16, .string⟩
def t12 : TyD := ⟨false, 1, [.int .u64 0], 8, .int .u64⟩
def t13 : TyD := ⟨true, 2, [.string ⟨#[]⟩, .int .u64 0], 24, .struct #[Field.mk "msg" 9 0 false "" "runtime" 0, Field.mk "addr" 12 1 false "" "runtime" 16]⟩
def t14 : TyD := ⟨true, 2, [.string ⟨#[]⟩, .int .u64 0], 24, .struct #[Field.mk "msg" 9 0 false "" "runtime" 0, Field.mk "addr" 12 1 false "" "runtime" 16]⟩
def t15 : TyD := ⟨false, 1, [.pointer none], 8, .pointer 107⟩
def t16 : TyD := ⟨false, 1, [.pointer none], 8, .pointer 110⟩
def t17 : TyD := ⟨false, 1, [.pointer none], 8, .pointer 119⟩
def t18 : TyD := ⟨true, 1, [.pointer none], 8, .struct #[Field.mk "typ" 17 0 false "" "internal/runtime/maps" 0]⟩
def t19 : TyD := ⟨true, 1, [.pointer none], 8, .struct #[Field.mk "typ" 17 0 false "" "internal/runtime/maps" 0]⟩
def t21 : TyD := ⟨false, 1, [.int .i32 0], 4, .int .i32⟩
def t22 : TyD := ⟨false, 1, [.slice none 0 0], 24, .slice 5⟩
def t26 : TyD := ⟨false, 1, [.slice none 0 0], 24, .slice 9⟩
def t30 : TyD := ⟨false, 1, [.slice none 0 0], 24, .slice 3⟩
def t32 : TyD := ⟨false, 1, [.slice none 0 0], 24, .slice 53⟩
def t33 : TyD := ⟨true, 1, [.slice none 0 0], 24, .struct #[Field.mk "List" 32 0 false "" "" 0]⟩
def t34 : TyD := ⟨true, 1, [.slice none 0 0], 24, .struct #[Field.mk "List" 32 0 false "" "" 0]⟩
def t40 : TyD := ⟨false, 1, [.slice none 0 0], 24, .slice 95⟩
def t41 : TyD := ⟨true, 1, [.slice none 0 0], 24, .struct #[Field.mk "List" 40 0 false "" "" 0]⟩
def t42 : TyD := ⟨true, 1, [.slice none 0 0], 24, .struct #[Field.mk "List" 40 0 false "" "" 0]⟩
def t51 : TyD := ⟨false, 1, [.slice none 0 0], 24, .slice 4⟩
def t52 : TyD := ⟨true, 6, [.int .i64 0, .int .i64 0, .int .i64 0, .slice none 0 0, .slice none 0 0, .int .i64 0], 80, .struct #[Field.mk "From" 3 0 false "" "" 0, Field.mk "Id" 3 1 false "" "" 8, Field.mk "Count" 3 2 false "" "" 16, Field.mk "Parts" 26 3 false "" "" 24, Field.mk "Have" 51 4 false "" "" 48, Field.mk "Until" 3 5 false "" "" 72]⟩
def t53 : TyD := ⟨true, 6, [.int .i64 0, .int .i64 0, .int .i64 0, .slice none 0 0, .slice none 0 0, .int .i64 0], 80, .struct #[Field.mk "From" 3 0 false "" "" 0, Field.mk "Id" 3 1 false "" "" 8, Field.mk "Count" 3 2 false "" "" 16, Field.mk "Parts" 26 3 false "" "" 24, Field.mk "Have" 51 4 false "" "" 48, Field.mk "Until" 3 5 false "" "" 72]⟩
def t55 : TyD := ⟨false, 1, [.pointer none], 8, .pointer 77⟩
def t66 : TyD := ⟨false, 1, [.pointer none], 8, .pointer 53⟩
def t76 : TyD := ⟨true, 3, [.slice none 0 0, .int .i64 0, .int .i64 0], 40, .struct #[Field.mk "b" 22 0 false "" "loop.example/g00193/spec" 0, Field.mk "i" 3 1 false "" "loop.example/g00193/spec" 24, Field.mk "h" 3 2 false "" "loop.example/g00193/spec" 32]⟩
def t77 : TyD := ⟨true, 3, [.slice none 0 0, .int .i64 0, .int .i64 0], 40, .struct #[Field.mk "b" 22 0 false "" "loop.example/g00193/spec" 0, Field.mk "i" 3 1 false "" "loop.example/g00193/spec" 24, Field.mk "h" 3 2 false "" "loop.example/g00193/spec" 32]⟩
def t81 : TyD := ⟨false, 1, [.int .u64 0], 8, .int .u64⟩
def t85 : TyD := ⟨false, 1, [.pointer none], 8, .pointer 87⟩
def t86 : TyD := ⟨true, 2, [.pointer none, .slice none 0 0], 32, .struct #[Field.mk "addr" 85 0 false "" "strings" 0, Field.mk "buf" 22 1 false "" "strings" 8]⟩
def t87 : TyD := ⟨true, 2, [.pointer none, .slice none 0 0], 32, .struct #[Field.mk "addr" 85 0 false "" "strings" 0, Field.mk "buf" 22 1 false "" "strings" 8]⟩
def t95 : TyD := ⟨true, 6, [.int .i64 0, .int .i64 0, .int .i64 0, .slice none 0 0, .slice none 0 0, .int .i64 0], 80, .struct #[Field.mk "From" 3 0 false "" "" 0, Field.mk "Id" 3 1 false "" "" 8, Field.mk "Count" 3 2 false "" "" 16, Field.mk "Parts" 26 3 false "" "" 24, Field.mk "Have" 51 4 false "" "" 48, Field.mk "Until" 3 5 false "" "" 72]⟩
def t100 : TyD := ⟨false, 1, [.pointer none], 8, .pointer 5⟩
def t106 : TyD := ⟨true, 4, [.pointer none, .pointer none, .pointer none, .string ⟨#[]⟩], 40, .struct #[Field.mk "_interface" 17 0 false "" "runtime" 0, Field.mk "concrete" 17 1 false "" "runtime" 8, Field.mk "asserted" 17 2 false "" "runtime" 16, Field.mk "missingMethod" 9 3 false "" "runtime" 24]⟩
def t107 : TyD := ⟨true, 4, [.pointer none, .pointer none, .pointer none, .string ⟨#[]⟩], 40, .struct #[Field.mk "_interface" 17 0 false "" "runtime" 0, Field.mk "concrete" 17 1 false "" "runtime" 8, Field.mk "asserted" 17 2 false "" "runtime" 16, Field.mk "missingMethod" 9 3 false "" "runtime" 24]⟩
def t108 : TyD := ⟨true, 0, [], 0, .array 0 16⟩
def t109 : TyD := ⟨true, 0, [], 0, .struct #[Field.mk "_" 108 0 false "" "runtime" 0]⟩
def t110 : TyD := ⟨true, 0, [], 0, .struct #[Field.mk "_" 108 0 false "" "runtime" 0]⟩
def t112 : TyD := ⟨false, 1, [.int .u32 0], 4, .int .u32⟩
def t113 : TyD := ⟨false, 1, [.int .u8 0], 1, .int .u8⟩
def t114 : TyD := ⟨false, 1, [.int .u8 0], 1, .int .u8⟩
def t116 : TyD := ⟨false, 1, [.int .i32 0], 4, .int .i32⟩
def t117 : TyD := ⟨false, 1, [.int .i32 0], 4, .int .i32⟩
def t118 : TyD := ⟨true, 11, [.int .u64 0, .int .u64 0, .int .u32 0, .int .u8 0, .int .u8 0, .int .u8 0, .int .u8 0, .nilFunc, .pointer none, .int .i32 0, .int .i32 0], 48, .struct #[Field.mk "Size_" 12 0 false "" "" 0, Field.mk "PtrBytes" 12 1 false "" "" 8, Field.mk "Hash" 112 2 false "" "" 16, Field.mk "TFlag" 113 3 false "" "" 20, Field.mk "Align_" 5 4 false "" "" 21, Field.mk "FieldAlign_" 5 5 false "" "" 22, Field.mk "Kind_" 114 6 false "" "" 23, Field.mk "Equal" 115 7 false "" "" 24, Field.mk "GCData" 100 8 false "" "" 32, Field.mk "Str" 116 9 false "" "" 40, Field.mk "PtrToThis" 117 10 false "" "" 44]⟩
def t119 : TyD := ⟨true, 11, [.int .u64 0, .int .u64 0, .int .u32 0, .int .u8 0, .int .u8 0, .int .u8 0, .int .u8 0, .nilFunc, .pointer none, .int .i32 0, .int .i32 0], 48, .struct #[Field.mk "Size_" 12 0 false "" "" 0, Field.mk "PtrBytes" 12 1 false "" "" 8, Field.mk "Hash" 112 2 false "" "" 16, Field.mk "TFlag" 113 3 false "" "" 20, Field.mk "Align_" 5 4 false "" "" 21, Field.mk "FieldAlign_" 5 5 false "" "" 22, Field.mk "Kind_" 114 6 false "" "" 23, Field.mk "Equal" 115 7 false "" "" 24, Field.mk "GCData" 100 8 false "" "" 32, Field.mk "Str" 116 9 false "" "" 40, Field.mk "PtrToThis" 117 10 false "" "" 44]⟩
def tab : List (Nat × TyD) := [(2, t2), (3, t3), (4, t4), (5, t5), (6, t6), (7, t7), (8, t8), (9, t9), (10, t10), (11, t11), (12, t12), (13, t13), (14, t14), (15, t15), (16, t16), (17, t17), (18, t18), (19, t19), (21, t21), (22, t22), (26, t26), (30, t30), (32, t32), (33, t33), (34, t34), (40, t40), (41, t41), (42, t42), (51, t51), (52, t52), (53, t53), (55, t55), (66, t66), (76, t76), (77, t77), (81, t81), (85, t85), (86, t86), (87, t87), (95, t95), (100, t100), (106, t106), (107, t107), (108, t108), (109, t109), (110, t110), (112, t112), (113, t113), (114, t114), (116, t116), (117, t117), (118, t118), (119, t119)]
def ty : Ty := lkp tab
theorem tk2 : tyOf Go.Proofs.Try.prog 2 = some t2 := by kernel_rfl
theorem tk3 : tyOf Go.Proofs.Try.prog 3 = some t3 := by kernel_rfl
theorem tk4 : tyOf Go.Proofs.Try.prog 4 = some t4 := by kernel_rfl
theorem tk5 : tyOf Go.Proofs.Try.prog 5 = some t5 := by kernel_rfl
theorem tk6 : tyOf Go.Proofs.Try.prog 6 = some t6 := by kernel_rfl
theorem tk7 : tyOf Go.Proofs.Try.prog 7 = some t7 := by kernel_rfl
theorem tk8 : tyOf Go.Proofs.Try.prog 8 = some t8 := by kernel_rfl
theorem tk9 : tyOf Go.Proofs.Try.prog 9 = some t9 := by kernel_rfl
theorem tk10 : tyOf Go.Proofs.Try.prog 10 = some t10 := by kernel_rfl
theorem tk11 : tyOf Go.Proofs.Try.prog 11 = some t11 := by kernel_rfl
theorem tk12 : tyOf Go.Proofs.Try.prog 12 = some t12 := by kernel_rfl
theorem tk13 : tyOf Go.Proofs.Try.prog 13 = some t13 := by kernel_rfl
theorem tk14 : tyOf Go.Proofs.Try.prog 14 = some t14 := by kernel_rfl
theorem tk15 : tyOf Go.Proofs.Try.prog 15 = some t15 := by kernel_rfl
theorem tk16 : tyOf Go.Proofs.Try.prog 16 = some t16 := by kernel_rfl
theorem tk17 : tyOf Go.Proofs.Try.prog 17 = some t17 := by kernel_rfl
theorem tk18 : tyOf Go.Proofs.Try.prog 18 = some t18 := by kernel_rfl
theorem tk19 : tyOf Go.Proofs.Try.prog 19 = some t19 := by kernel_rfl
theorem tk21 : tyOf Go.Proofs.Try.prog 21 = some t21 := by kernel_rfl
theorem tk22 : tyOf Go.Proofs.Try.prog 22 = some t22 := by kernel_rfl
theorem tk26 : tyOf Go.Proofs.Try.prog 26 = some t26 := by kernel_rfl
theorem tk30 : tyOf Go.Proofs.Try.prog 30 = some t30 := by kernel_rfl
theorem tk32 : tyOf Go.Proofs.Try.prog 32 = some t32 := by kernel_rfl
theorem tk33 : tyOf Go.Proofs.Try.prog 33 = some t33 := by kernel_rfl
theorem tk34 : tyOf Go.Proofs.Try.prog 34 = some t34 := by kernel_rfl
theorem tk40 : tyOf Go.Proofs.Try.prog 40 = some t40 := by kernel_rfl
theorem tk41 : tyOf Go.Proofs.Try.prog 41 = some t41 := by kernel_rfl
theorem tk42 : tyOf Go.Proofs.Try.prog 42 = some t42 := by kernel_rfl
theorem tk51 : tyOf Go.Proofs.Try.prog 51 = some t51 := by kernel_rfl
theorem tk52 : tyOf Go.Proofs.Try.prog 52 = some t52 := by kernel_rfl
theorem tk53 : tyOf Go.Proofs.Try.prog 53 = some t53 := by kernel_rfl
theorem tk55 : tyOf Go.Proofs.Try.prog 55 = some t55 := by kernel_rfl
theorem tk66 : tyOf Go.Proofs.Try.prog 66 = some t66 := by kernel_rfl
theorem tk76 : tyOf Go.Proofs.Try.prog 76 = some t76 := by kernel_rfl
theorem tk77 : tyOf Go.Proofs.Try.prog 77 = some t77 := by kernel_rfl
theorem tk81 : tyOf Go.Proofs.Try.prog 81 = some t81 := by kernel_rfl
theorem tk85 : tyOf Go.Proofs.Try.prog 85 = some t85 := by kernel_rfl
theorem tk86 : tyOf Go.Proofs.Try.prog 86 = some t86 := by kernel_rfl
theorem tk87 : tyOf Go.Proofs.Try.prog 87 = some t87 := by kernel_rfl
theorem tk95 : tyOf Go.Proofs.Try.prog 95 = some t95 := by kernel_rfl
theorem tk100 : tyOf Go.Proofs.Try.prog 100 = some t100 := by kernel_rfl
theorem tk106 : tyOf Go.Proofs.Try.prog 106 = some t106 := by kernel_rfl
theorem tk107 : tyOf Go.Proofs.Try.prog 107 = some t107 := by kernel_rfl
theorem tk108 : tyOf Go.Proofs.Try.prog 108 = some t108 := by kernel_rfl
theorem tk109 : tyOf Go.Proofs.Try.prog 109 = some t109 := by kernel_rfl
theorem tk110 : tyOf Go.Proofs.Try.prog 110 = some t110 := by kernel_rfl
theorem tk112 : tyOf Go.Proofs.Try.prog 112 = some t112 := by kernel_rfl
theorem tk113 : tyOf Go.Proofs.Try.prog 113 = some t113 := by kernel_rfl
theorem tk114 : tyOf Go.Proofs.Try.prog 114 = some t114 := by kernel_rfl
theorem tk116 : tyOf Go.Proofs.Try.prog 116 = some t116 := by kernel_rfl
theorem tk117 : tyOf Go.Proofs.Try.prog 117 = some t117 := by kernel_rfl
theorem tk118 : tyOf Go.Proofs.Try.prog 118 = some t118 := by kernel_rfl
theorem tk119 : tyOf Go.Proofs.Try.prog 119 = some t119 := by kernel_rfl
noncomputable abbrev Pg : Program := Go.Proofs.Try.prog
theorem mixed : Pg.follows .mixedOrders = true := by kernel_rfl
theorem tyok : TyOk Go.Proofs.Try.prog ty := tyOk_tab _ _ ⟨tk2, tk3, tk4, tk5, tk6, tk7, tk8, tk9, tk10, tk11, tk12, tk13, tk14, tk15, tk16, tk17, tk18, tk19, tk21, tk22, tk26, tk30, tk32, tk33, tk34, tk40, tk41, tk42, tk51, tk52, tk53, tk55, tk66, tk76, tk77, tk81, tk85, tk86, tk87, tk95, tk100, tk106, tk107, tk108, tk109, tk110, tk112, tk113, tk114, tk116, tk117, tk118, tk119, trivial⟩
end Go.Vm.S
namespace Go.Vm
open Go Go.ChangeShapes Go.WideShapes Go.ChangeAt Go.RowKit

def Zall (w : World) : Zn := ⟨fun b o => (rd w b o).isSome = true, fun b o => (rd w b o).isSome = true, fun _ _ h => h⟩

inductive Shp (P : Program) : TypeId → List C → Prop
  | bool {t : TypeId} (b : Bool) : P.underlying t = some .bool → Shp P t [.val (.bool b)]
  | int {t : TypeId} {k : IntKind} (n : Int) : P.underlying t = some (.int k) → (Lit.int k n).wf = true → Shp P t [.val (.int k n)]
  | str {t : TypeId} (s : ByteArray) : P.underlying t = some .string → s.size ≤ maxLen → Shp P t [.val (.string s)]
  | slice {t e : TypeId} (es : List (List C)) : P.underlying t = some (.slice e) → (∀ r, r ∈ es → r.length = P.cellsOf e) → (∀ r, r ∈ es → Shp P e r) → Shp P t [.sh (P.cellsOf e) es]
  | struct {t : TypeId} {fs : Array Field} (cs : List C) : P.underlying t = some (.struct fs) → cs.length = P.cellsOf t → (∀ f, f ∈ fs.toList → Shp P f.type ((cs.drop f.offset).take (P.cellsOf f.type))) → Shp P t cs

def tiled (P : Program) (tot : Nat) : Nat → List Field → Bool
  | o, [] => Nat.beq o tot
  | o, f :: r => Nat.beq f.offset o && tiled P tot (o + P.cellsOf f.type) r
def plainT (P : Program) : Nat → TypeId → Bool
  | 0, _ => false
  | n + 1, t => match P.underlying t with
    | some .bool => true
    | some (.int _) => true
    | some .string => true
    | some (.slice e) => plainT P n e
    | some (.struct fs) => tiled P (P.cellsOf t) 0 fs.toList && fs.toList.all fun f => plainT P n f.type
    | _ => false

section
variable {H : Type} {enc : TypeId × Value → H} {P : Program} {w : World} {base : Nat} {spare : Nat → Bool} {held : Bool}

def CMs (w : World) (cs : List C) (vs : List Value) : Prop := ∀ (j : Nat) c v, cs[j]? = some c → vs[j]? = some v → CM w (Zall w) c v bot
theorem CMs.one {c : C} {v : Value} (h : CM w (Zall w) c v bot) : CMs w [c] [v] := fun j c' v' h1 h2 => by
  cases j with
  | zero => simp at h1 h2; subst h1; subst h2; exact h
  | succ j => simp at h1

theorem tiled_build {tot : Nat} {vs : List Value} (hl : vs.length = tot) : ∀ (fs : List Field) (o : Nat), tiled P tot o fs = true →
    (∀ f, f ∈ fs → ∃ part, part.length = ((vs.drop f.offset).take (P.cellsOf f.type)).length ∧ Shp P f.type part ∧ CMs w part ((vs.drop f.offset).take (P.cellsOf f.type))) →
    o ≤ tot ∧ ∃ cs : List C, cs.length = tot - o ∧ (∀ f, f ∈ fs → o ≤ f.offset ∧ Shp P f.type ((cs.drop (f.offset - o)).take (P.cellsOf f.type))) ∧ CMs w cs (vs.drop o)
  | [], o, ht, _ => by
    have : o = tot := by simpa [tiled] using ht
    subst this
    exact ⟨Nat.le_refl _, [], by simp, by simp, fun j c v h => by simp at h⟩
  | f :: r, o, ht, hp => by
    simp only [tiled, Bool.and_eq_true, Nat.beq_eq] at ht
    obtain ⟨ho, ht⟩ := ht
    obtain ⟨hle, cs, h1, h2, h3⟩ := tiled_build hl r _ ht fun g hg => hp g (List.mem_cons_of_mem _ hg)
    obtain ⟨part, p1, p2, p3⟩ := hp f List.mem_cons_self
    rw [ho] at p1 p3
    have hpl : part.length = P.cellsOf f.type := by rw [p1]; simp; omega
    refine ⟨by omega, part ++ cs, by simp; omega, fun g hg => ?_, fun j c v hc hv => ?_⟩
    · rcases List.mem_cons.1 hg with e | hg
      · subst e
        refine ⟨by omega, ?_⟩
        rw [ho, Nat.sub_self, List.drop_zero, ← hpl, List.take_left']
        · exact p2
        · rfl
      · obtain ⟨g1, g2⟩ := h2 g hg
        refine ⟨by omega, ?_⟩
        rw [List.drop_append, List.drop_of_length_le (by omega), List.nil_append, hpl, show g.offset - o - P.cellsOf f.type = g.offset - (o + P.cellsOf f.type) by omega]
        exact g2
    · rcases Nat.lt_or_ge j part.length with hj | hj
      · rw [List.getElem?_append_left hj] at hc
        refine p3 j c v hc ?_
        rw [List.getElem?_take, if_pos (by omega)]
        exact hv
      · rw [List.getElem?_append_right hj] at hc
        refine h3 _ c v hc ?_
        rw [List.getElem?_drop] at hv ⊢
        rw [← hv]; congr 1; omega

theorem addr_add_add (a : Addr) (m n : Nat) : (a.add m).add n = a.add (m + n) := by
  unfold Addr.add
  by_cases hm : m = 0
  · subst hm; simp
  · by_cases hn : n = 0
    · subst hn; simp
    · simp [hm, hn]; omega
theorem cells?_get {a : Addr} {n : Nat} {cs : List Value} (h : w.cells? base a n = some cs) : cs.length = n ∧ ∀ i, i < n → w.cell? (a.add i) = cs[i]? := by
  unfold World.cells? at h
  split at h
  · refine ⟨by simpa using mapM_some_length h, fun i hi => ?_⟩
    exact mapM_some_get h i i (by simp [hi])
  · cases h

theorem trod_CM : ∀ (n fuel : Nat) (t : TypeId) (vs : List Value) (x : DataW H × List MemPlace), plainT P n t = true → DataW.trod enc P w base spare held fuel t vs = some x →
    ∃ cs : List C, cs.length = vs.length ∧ Shp P t cs ∧ CMs w cs vs
  | 0, _, _, _, _, hp, _ => by simp [plainT] at hp
  | n + 1, fuel, t, vs, x, hp, h => by
    unfold plainT at hp
    split at hp
    · rename_i hu
      cases fuel with
      | zero => simp [DataW.trod] at h
      | succ m =>
        unfold DataW.trod at h
        rw [hu] at h
        split at h <;> simp_all
        exact ⟨[_], rfl, .bool _ hu, .one (.val _ _ rfl Emp.bot)⟩
    · rename_i k hu
      cases fuel with
      | zero => simp [DataW.trod] at h
      | succ m =>
        unfold DataW.trod at h
        rw [hu] at h
        split at h <;> simp_all
        obtain ⟨⟨rfl, hw⟩, _⟩ := h
        exact ⟨[_], rfl, .int _ hu hw, .one (.val _ _ rfl Emp.bot)⟩
    · rename_i hu
      cases fuel with
      | zero => simp [DataW.trod] at h
      | succ m =>
        unfold DataW.trod at h
        rw [hu] at h
        split at h <;> simp_all
        exact ⟨[_], rfl, .str _ hu h.1, .one (.val _ _ rfl Emp.bot)⟩
    · rename_i e hu
      rcases DataW.trod_slice hu h with ⟨rfl, _⟩ | ⟨a, len, cap, elems, rest, m, _, rfl, _, _, hlc, hcm, hel, hget, _⟩
      · refine ⟨[.sh (P.cellsOf e) []], rfl, .slice [] hu (by simp) (by simp), .one ?_⟩
        exact .sh _ [] none 0 _ (fun _ => .bool true) Emp.bot (by simp) (by simp) (by simp) (by simp) (by simp)
      · have each : ∀ i, i < len → ∃ us : List Value, ∃ row : List C, w.cells? base (a.add (i * P.cellsOf e)) (P.cellsOf e) = some us ∧ row.length = us.length ∧ Shp P e row ∧ CMs w row us := by
          intro i hi
          have h1 := hget i hi
          rw [List.getElem?_eq_getElem (by omega)] at h1
          obtain ⟨us, h2, h3⟩ := Option.bind_eq_some_iff.1 h1
          obtain ⟨row, r1, r2, r3⟩ := trod_CM n m e us _ hp h3
          exact ⟨us, row, h2, r1, r2, r3⟩
        have hch : ∃ (U : Nat → List Value) (R : Nat → List C), ∀ i, i < len → w.cells? base (a.add (i * P.cellsOf e)) (P.cellsOf e) = some (U i) ∧ (R i).length = (U i).length ∧ Shp P e (R i) ∧ CMs w (R i) (U i) := by
          refine ⟨fun i => if hi : i < len then Classical.choose (each i hi) else [], fun i => if hi : i < len then Classical.choose (Classical.choose_spec (each i hi)) else [], fun i hi => ?_⟩
          simp only [dif_pos hi]
          exact Classical.choose_spec (Classical.choose_spec (each i hi))
        obtain ⟨U, R, hUR⟩ := hch
        have hRl : ∀ i, i < len → (R i).length = P.cellsOf e := fun i hi => by
          obtain ⟨h1, h2, _, _⟩ := hUR i hi
          rw [h2, (cells?_get h1).1]
        have hwid : ∀ r, r ∈ (List.range len).map R → r.length = P.cellsOf e := fun r hr => by
          obtain ⟨i, hi, rfl⟩ := List.mem_map.1 hr
          exact hRl i (List.mem_range.1 hi)
        refine ⟨[.sh (P.cellsOf e) ((List.range len).map R)], rfl, .slice _ hu hwid (fun r hr => ?_), .one ?_⟩
        · obtain ⟨i, hi, rfl⟩ := List.mem_map.1 hr
          exact (hUR i (List.mem_range.1 hi)).2.2.1
        · have hl : ((List.range len).map R).length = len := by simp
          have hml : maxLen < 2 ^ 63 := by unfold maxLen; omega
          have key : ∀ (p : Nat) c, ((List.range len).map R).flatten[p]? = some c → ∃ v, w.cell? (a.add p) = some v ∧ CM w (Zall w) c v bot := by
            intro p c hp'
            have hlt := lt_of_get hp'
            rw [flatten_length_of_wid hwid, hl] at hlt
            have hpos : 0 < P.cellsOf e := by
              rcases Nat.eq_zero_or_pos (P.cellsOf e) with h0 | h0
              · rw [h0] at hlt; omega
              · exact h0
            have hi : p / P.cellsOf e < len := (Nat.div_lt_iff_lt_mul hpos).2 hlt
            have hj : p % P.cellsOf e < P.cellsOf e := Nat.mod_lt _ hpos
            have hpe : p / P.cellsOf e * P.cellsOf e + p % P.cellsOf e = p := by rw [Nat.mul_comm]; exact Nat.div_add_mod _ _
            obtain ⟨h1, h2, _, h4⟩ := hUR _ hi
            have hfg := flatten_get hwid (i := p / P.cellsOf e) (j := p % P.cellsOf e) (e := R (p / P.cellsOf e)) (by simp [hi]) hj
            rw [hpe] at hfg
            rw [hfg] at hp'
            obtain ⟨hcl, hcg⟩ := cells?_get h1
            have hc := hcg _ hj
            rw [List.getElem?_eq_getElem (by omega)] at hc
            refine ⟨_, ?_, h4 _ c _ hp' (List.getElem?_eq_getElem (by omega))⟩
            rw [← hc]
            rw [addr_add_add, hpe]
          have hvals : ∃ vals : Nat → Value, ∀ (p : Nat) c, ((List.range len).map R).flatten[p]? = some c → w.cell? (a.add p) = some (vals p) ∧ CM w (Zall w) c (vals p) bot := by
            refine ⟨fun p => ((w.cell? (a.add p)).getD undef), fun p c hc => ?_⟩
            obtain ⟨v, h1, h2⟩ := key p c hc
            simp only [h1, Option.getD_some]; exact ⟨trivial, h2⟩
          obtain ⟨vals, hvals⟩ := hvals
          conv => arg 4; rw [← hl]
          refine .sh _ _ (some a) cap _ vals Emp.bot (by rw [hl]; omega) (by rw [hl]; exact hlc) hwid (fun p c hc => ?_) (fun p c hc => (hvals p c hc).2)
          have hv := (hvals p c hc).1
          have hsp : a.spot = none := by
            have hlt := lt_of_get hc
            have hv0 := (hvals 0 _ (List.getElem?_eq_getElem (by omega))).1
            have := World.cell?_spot hv0
            simpa [Addr.add] using this
          have hrd : rd w a.block (a.off + p) = some (vals p) := by
            unfold rd; rw [← hv, addr_add' hsp]
          exact ⟨a, rfl, hsp, hrd, show (rd w a.block (a.off + p)).isSome = true by rw [hrd]; rfl⟩
    · rename_i fs hu
      simp only [Bool.and_eq_true, List.all_eq_true] at hp
      obtain ⟨xs, m, _, _, hl, hxl, hx⟩ := DataW.trod_struct hu h
      obtain ⟨_, cs, h1, h2, h3⟩ := tiled_build (P := P) (w := w) hl fs.toList 0 hp.1 fun f hf => by
        obtain ⟨i, hi, rfl⟩ := List.getElem_of_mem hf
        have := hx i _ (Array.getElem?_eq_getElem (by simpa using hi))
        rw [List.getElem?_eq_getElem (by rw [hxl]; simpa using hi)] at this
        obtain ⟨part, p1, p2, p3⟩ := trod_CM n m _ _ _ (hp.2 _ hf) (by simpa using this)
        exact ⟨part, p1, p2, p3⟩
      refine ⟨cs, by rw [h1, hl]; simp, .struct cs hu (by rw [h1]; simp) (fun f hf => by simpa using (h2 f hf).2), by simpa using h3⟩
    · cases hp
end
end Go.Vm
namespace Go.Vm
open Go Go.ChangeShapes Go.WideShapes Go.ChangeAt Go.RowKit

section
variable {H : Type} {enc : TypeId × Value → H} {P : Program} {w : World} {base : Nat} {spare : Nat → Bool} {held : Bool}
theorem okWide_one {r : Reach} {b : Nat} {t : TypeId} {v : Value} {d : TypeDesc} (hu : P.underlying t = some d) (hd : (match d with | .bool => true | .int _ => true | .string => true | .slice _ => true | _ => false) = true) (h : Value.okWide P w r b t v) : v.cells.toList = [v] := by
  unfold Value.okWide at h
  rw [hu] at h
  cases d <;> simp at hd <;> simp only at h <;> unfold Cell.okWide at h <;> rw [hu] at h <;> simp only at h <;> unfold Cell.ok at h <;> rw [hu] at h <;> cases v <;> simp_all [Value.cells]
theorem trod_one {t : TypeId} {v : Value} {x : DataW H} {p : List MemPlace} {r : Reach} {b : Nat} {d : TypeDesc} (n : Nat) (hp : plainT P n t = true) (hu : P.underlying t = some d)
    (hd : (match d with | .bool => true | .int _ => true | .string => true | .slice _ => true | _ => false) = true) (hv : Value.okWide P w r b t v) (h : DataW.Trod enc P w base spare held t v x p) :
    ∃ c, Shp P t [c] ∧ ∀ L k, VR w L (Zall w) k (.one (.c c)) v := by
  obtain ⟨fuel, hf⟩ := h
  rw [okWide_one hu hd hv] at hf
  obtain ⟨cs, h1, h2, h3⟩ := trod_CM n fuel t _ _ hp hf
  match cs, h1 with
  | [c], _ => exact ⟨c, h2, fun L k => h3 0 c v rfl rfl⟩
theorem trod_agg {t : TypeId} {v : Value} {x : DataW H} {p : List MemPlace} {r : Reach} {b : Nat} {fs : Array Field} (n : Nat) (hp : plainT P n t = true) (hu : P.underlying t = some (.struct fs))
    (hv : Value.okWide P w r b t v) (h : DataW.Trod enc P w base spare held t v x p) : ∃ cs, Shp P t cs ∧ ∀ L k, VR w L (Zall w) k (.agg (cs.map X.c)) v := by
  obtain ⟨vs, rfl, hsz⟩ := okWide_struct hu hv
  obtain ⟨fuel, hf⟩ := h
  obtain ⟨cs, h1, h2, h3⟩ := trod_CM n fuel t _ _ hp hf
  refine ⟨cs, h2, fun L k => ⟨vs.toList, by simp, by simpa [Value.cells] using h1.symm, fun j y u hy hu => ?_⟩⟩
  rw [List.getElem?_map] at hy
  obtain ⟨c, hc, rfl⟩ := Option.map_eq_some_iff.1 hy
  exact h3 j c u hc (by simpa [Value.cells] using hu)

theorem below_trodAll (hl : laidOutB P = true) {W W' : World} (hb : Below W.heap.size W W') : ∀ {ts : List TypeId} {vs : List Value} {ds : List (DataW H)} {ps : List MemPlace},
    ts.all (fun t => P.readableRec t && decide (t < P.types.size)) = true → DataW.TrodAll enc P W 0 (fun _ => true) true ts vs ds ps → DataW.TrodAll enc P W' 0 (fun b => decide (b < W.heap.size)) true ts vs ds ps
  | [], [], [], _, _, h => h
  | [], [], _ :: _, _, _, h => h.elim
  | [], _ :: _, _, _, _, h => h.elim
  | _ :: _, [], _, _, _, h => h.elim
  | _ :: _, _ :: _, [], _, _, h => h.elim
  | t :: ts, v :: vs, d :: ds, ps, ht, h => by
    have hlt := DataW.TrodAll.lt h
    obtain ⟨p, q, h1, h2, rfl⟩ := h
    simp only [List.all_cons, Bool.and_eq_true, decide_eq_true_eq] at ht
    exact ⟨p, q, Below.trod hl ht.1.1 ht.1.2 h1 hb (fun x hx => hlt x (List.mem_append_left _ hx)), below_trodAll hl hb ht.2 h2, rfl⟩

/-- what is shared and flat is frozen too: nothing old is turned -/
theorem CM.iced {Z : Zn} {sz : Nat} {es : List (List C)} {v : Value} {f : FP} (h : CM w Z (.sh sz es) v f) (hz : ∀ b o, Z.all b o → Z.fz b o) : CM w Z (.fz sz es) v f := by
  cases h with
  | sh _ _ A cap _ vals hf lim hcap wid cel sub =>
    exact .ice sz es A cap f vals hf lim hcap wid (fun p c hc => by obtain ⟨a, h1, h2, h3, h4⟩ := cel p c hc; exact ⟨a, h1, h2, h3, hz _ _ h4⟩) sub
theorem VR.iced {L : Lay} {k : Nat} {sz : Nat} {es : List (List C)} {v : Value} (h : VR w L (Zall w) k (.one (.c (.sh sz es))) v) : VR w L (Zall w) k (.one (.c (.fz sz es))) v :=
  CM.iced (w := w) (Z := Zall w) h fun _ _ h => h

/-- a law that answers true, and turns nothing old -/
theorem law_calls {ty : Ty} {f : FuncId} {fn : Func} {s : ChangeSpec} {apart fresh handsOn : Bool} {W : World} {args : Array Value} {ds gs : List (DataW H)} {before : List MemPlace} {tb : TypeId} {vs : List V} (tyok : TyOk P ty)
    (lo : laidOutB P = true) (hvars : s.vars = []) (hres : fn.resultTypes = #[tb]) (htb : P.underlying tb = some .bool)
    (hread : (fn.params.toList.all fun t => P.readableRec t && decide (t < P.types.size)) = true) (hsp : s.fn H ds = { results := [.lit (.bool true)], args := ds })
    (hW : DataW.Whole enc P fn.params.toList s.vars apart W args.toList ds gs before) (hlen : args.toList.length = vs.length)
    (hvr : ∀ (j : Nat) x y, vs[j]? = some x → args.toList[j]? = some y → ∀ L, VR W L (Zall W) 16 x y)
    (hC : Ctr P ty f vs [] (Gives (vv (.bool true)) [] [])) :
    Calls P f args W fun e W' => ∃ v, e = .returned v ∧ s.post enc P fn apart fresh handsOn false W args v W' := by
  have hcall := hC.run W ⟨fun _ => ⟨⟨0, 0, none⟩, 0, 0⟩, Zall W⟩ (fun _ => bot) args.toList tyok
    ⟨fun nm nd h => by simp at h, fun nm _ => Emp.bot, fun _ _ _ => Emp.bot.disj _, fun _ => fun b o h => h.elim, fun _ _ _ h => h.elim⟩
    (fun b o h => by
      have h : (rd W b o).isSome = true := h
      obtain ⟨v, hv⟩ := Option.isSome_iff_exists.1 h
      exact rd_lt hv) hlen (fun j x y hx hy => hvr j x y hx hy _)
  rw [Array.toArray_toList] at hcall
  refine hcall.mono fun e W' ⟨v, he, r, ns, N', L', F', ⟨hr, _, _⟩, _, _, htr, hfr, _, _⟩ => ⟨v, he, ?_⟩
  rw [hr] at htr
  have hv := TR_vv htr
  subst hv
  have hb : Below W.heap.size W W' := hfr.toBelow fun b o _ ⟨_, h⟩ => h
  have hW' := hW
  obtain ⟨p, q, hA, hV, rfl, _, _⟩ := hW
  rw [hvars] at hV
  obtain ⟨rfl, rfl⟩ := trodVars_none hV
  refine ⟨ds, [], p ++ [], [], p, [], hW', ?_, ?_, ?_, hb.frame _, fun h => by cases h⟩
  · rw [List.append_nil, hsp, hres]
    exact trodAll_mk1 ⟨1, by simp [DataW.trod, Value.cells, htb]⟩
  · rw [List.append_nil, hsp]
    exact below_trodAll lo hb hread hA
  · rw [hvars, List.append_nil, hsp]; rfl
end
end Go.Vm
namespace Go.Vm
open Go

section
variable {P : Program} {t : TypeId} {cs : List C}
theorem Shp.bool_inv (h : Shp P t cs) (hu : P.underlying t = some .bool) : ∃ b, cs = [.val (.bool b)] := by
  cases h with
  | bool b _ => exact ⟨b, rfl⟩
  | int n h1 _ => rw [hu] at h1; cases h1
  | str s h1 _ => rw [hu] at h1; cases h1
  | slice es h1 _ _ => rw [hu] at h1; cases h1
  | struct _ h1 _ _ => rw [hu] at h1; cases h1
theorem Shp.int_inv {k : IntKind} (h : Shp P t cs) (hu : P.underlying t = some (.int k)) : ∃ n, cs = [.val (.int k n)] ∧ (Lit.int k n).wf = true := by
  cases h with
  | bool b h1 => rw [hu] at h1; cases h1
  | int n h1 h2 => rw [hu] at h1; cases h1; exact ⟨n, rfl, h2⟩
  | str s h1 _ => rw [hu] at h1; cases h1
  | slice es h1 _ _ => rw [hu] at h1; cases h1
  | struct _ h1 _ _ => rw [hu] at h1; cases h1
theorem Shp.str_inv (h : Shp P t cs) (hu : P.underlying t = some .string) : ∃ s, cs = [.val (.string s)] ∧ s.size < 9223372036854775808 := by
  cases h with
  | bool b h1 => rw [hu] at h1; cases h1
  | int n h1 h2 => rw [hu] at h1; cases h1
  | str s h1 h2 => exact ⟨s, rfl, by unfold maxLen at h2; omega⟩
  | slice es h1 _ _ => rw [hu] at h1; cases h1
  | struct _ h1 _ _ => rw [hu] at h1; cases h1
theorem Shp.slice_inv {e : TypeId} {sz : Nat} (h : Shp P t cs) (hu : P.underlying t = some (.slice e)) (hsz : P.cellsOf e = sz) : ∃ es, cs = [.sh sz es] ∧ ∀ r, r ∈ es → Shp P e r := by
  subst hsz
  cases h with
  | bool b h1 => rw [hu] at h1; cases h1
  | int n h1 h2 => rw [hu] at h1; cases h1
  | str s h1 h2 => rw [hu] at h1; cases h1
  | slice es h1 h2 h3 => rw [hu] at h1; cases h1; exact ⟨es, rfl, h3⟩
  | struct _ h1 _ _ => rw [hu] at h1; cases h1
theorem Shp.struct_inv {fs : Array Field} {n : Nat} (h : Shp P t cs) (hu : P.underlying t = some (.struct fs)) (hn : P.cellsOf t = n) :
    cs.length = n ∧ ∀ f, f ∈ fs.toList → ∀ m, P.cellsOf f.type = m → Shp P f.type ((cs.drop f.offset).take m) := by
  subst hn
  cases h with
  | bool b h1 => rw [hu] at h1; cases h1
  | int n h1 h2 => rw [hu] at h1; cases h1
  | str s h1 h2 => rw [hu] at h1; cases h1
  | slice es h1 h2 h3 => rw [hu] at h1; cases h1
  | struct _ h1 h2 h3 => rw [hu] at h1; cases h1; exact ⟨h2, fun f hf m hm => by subst hm; exact h3 f hf⟩
theorem rows_inv {α : Type} {f : α → List C} {ok : α → Prop} : ∀ {es : List (List C)}, (∀ r, r ∈ es → ∃ x, r = f x ∧ ok x) → ∃ l : List α, es = l.map f ∧ ∀ x, x ∈ l → ok x
  | [], _ => ⟨[], rfl, by simp⟩
  | r :: es, h => by
    obtain ⟨x, rfl, hx⟩ := h r List.mem_cons_self
    obtain ⟨l, rfl, hl⟩ := rows_inv (es := es) fun r hr => h r (List.mem_cons_of_mem _ hr)
    exact ⟨x :: l, rfl, fun y hy => by
      rcases List.mem_cons.1 hy with e | hy
      · rw [e]; exact hx
      · exact hl y hy⟩
end
end Go.Vm
namespace Go.Vm.S
open Go Go.Vm

theorem shp_bools {t e : TypeId} {cs : List C} (h : Shp Pg t cs) (hu : Pg.underlying t = some (.slice e)) (hc : Pg.cellsOf e = 1) (he : Pg.underlying e = some .bool) : ∃ l : List Bool, cs = [.sh 1 (l.map boolC)] := by
  obtain ⟨es, rfl, hr⟩ := h.slice_inv hu hc
  obtain ⟨l, rfl, _⟩ := rows_inv (f := boolC) (ok := fun _ => True) (es := es) fun r hr' => by obtain ⟨b, rfl⟩ := (hr r hr').bool_inv he; exact ⟨b, rfl, trivial⟩
  exact ⟨l, rfl⟩
theorem shp_strs {t e : TypeId} {cs : List C} (h : Shp Pg t cs) (hu : Pg.underlying t = some (.slice e)) (hc : Pg.cellsOf e = 1) (he : Pg.underlying e = some .string) : ∃ l : List ByteArray, cs = [.sh 1 (l.map strC)] ∧ strsOk l := by
  obtain ⟨es, rfl, hr⟩ := h.slice_inv hu hc
  obtain ⟨l, rfl, hl⟩ := rows_inv (f := strC) (ok := fun s => s.size < 9223372036854775808) (es := es) fun r hr' => by obtain ⟨b, rfl, hb⟩ := (hr r hr').str_inv he; exact ⟨b, rfl, hb⟩
  exact ⟨l, rfl, hl⟩
theorem shp_held {cs : List C} (h : Shp Pg 95 cs) : ∃ x : Held, cs = heldC x ∧ heldOk x := by
  obtain ⟨hl, hf⟩ := h.struct_inv (tyok 95 _ rfl).1 (n := 6) (by kernel_rfl)
  match cs, hl with
  | [c0, c1, c2, c3, c4, c5], _ =>
    have f0 : Shp Pg 3 [c0] := hf _ (.head _) 1 (by kernel_rfl)
    have f1 : Shp Pg 3 [c1] := hf _ (.tail _ (.head _)) 1 (by kernel_rfl)
    have f2 : Shp Pg 3 [c2] := hf _ (.tail _ (.tail _ (.head _))) 1 (by kernel_rfl)
    have f3 : Shp Pg 26 [c3] := hf _ (.tail _ (.tail _ (.tail _ (.head _)))) 1 (by kernel_rfl)
    have f4 : Shp Pg 51 [c4] := hf _ (.tail _ (.tail _ (.tail _ (.tail _ (.head _))))) 1 (by kernel_rfl)
    have f5 : Shp Pg 3 [c5] := hf _ (.tail _ (.tail _ (.tail _ (.tail _ (.tail _ (.head _)))))) 1 (by kernel_rfl)
    obtain ⟨n0, e0, _⟩ := f0.int_inv (tyok 3 _ rfl).1
    obtain ⟨n1, e1, _⟩ := f1.int_inv (tyok 3 _ rfl).1
    obtain ⟨n2, e2, _⟩ := f2.int_inv (tyok 3 _ rfl).1
    obtain ⟨l3, e3, o3⟩ := shp_strs f3 (tyok 26 _ rfl).1 (by kernel_rfl) (tyok 9 _ rfl).1
    obtain ⟨l4, e4⟩ := shp_bools f4 (tyok 51 _ rfl).1 (by kernel_rfl) (tyok 4 _ rfl).1
    obtain ⟨n5, e5, _⟩ := f5.int_inv (tyok 3 _ rfl).1
    cases e0; cases e1; cases e2; cases e3; cases e4; cases e5
    exact ⟨⟨n0, n1, n2, l3, l4, n5⟩, rfl, o3⟩
theorem shp_shelf {cs : List C} (h : Shp Pg 42 cs) : ∃ l : List Held, cs = shelfC l ∧ heldsOk l := by
  obtain ⟨hl, hf⟩ := h.struct_inv (tyok 42 _ rfl).1 (n := 1) (by kernel_rfl)
  match cs, hl with
  | [c0], _ =>
    have f0 : Shp Pg 40 [c0] := hf _ (.head _) 1 (by kernel_rfl)
    obtain ⟨es, e0, hr⟩ := f0.slice_inv (sz := 6) (tyok 40 _ rfl).1 (by kernel_rfl)
    cases e0
    obtain ⟨l, rfl, hl⟩ := rows_inv (f := heldC) (ok := heldOk) (es := es) fun r hr' => shp_held (hr r hr')
    exact ⟨l, rfl, hl⟩
end Go.Vm.S
namespace Go.Vm.S
open Go Go.Vm
theorem shp_bytes {cs : List C} (h : Shp Pg 22 cs) : ∃ l : List Int, cs = [.sh 1 (l.map byteC)] := by
  obtain ⟨es, rfl, hr⟩ := h.slice_inv (tyok 22 _ rfl).1 (sz := 1) (by kernel_rfl)
  obtain ⟨l, rfl, _⟩ := rows_inv (f := byteC) (ok := fun _ => True) (es := es) fun r hr' => by obtain ⟨b, rfl, _⟩ := (hr r hr').int_inv (tyok 5 _ rfl).1; exact ⟨b, rfl, trivial⟩
  exact ⟨l, rfl⟩
end Go.Vm.S
namespace Go.Vm.S
open Go Go.Vm

def within (n lo hi : Int) : Bool := decide (lo ≤ n) && decide (n ≤ hi)
theorem within_t {n lo hi : Int} (h1 : lo ≤ n) (h2 : n ≤ hi) : within n lo hi = true := by simp [within, h1, h2]
theorem within_f {n lo hi : Int} (h : n < lo ∨ hi < n) : within n lo hi = false := by
  simp only [within, Bool.and_eq_false_iff, decide_eq_false_iff_not]; omega
theorem within_of {n lo hi : Int} (h : within n lo hi = true) : lo ≤ n ∧ n ≤ hi := by simpa [within] using h
theorem within_nof {n lo hi : Int} (h : within n lo hi = false) : n < lo ∨ hi < n := by
  simp only [within, Bool.and_eq_false_iff, decide_eq_false_iff_not] at h; omega
theorem byteAt_lt (s : ByteArray) (i : Nat) : byteAt s i < 256 := by unfold byteAt; exact UInt8.toNat_lt _

/-- a part, read -/
def rpOk (t : ByteArray) : Bool := decide (3 ≤ t.size) && (within (byteAt t 2) 1 15 && decide (byteAt t 1 < byteAt t 2))
def rpT (t : ByteArray) : T := if rpOk t then .tup [iv (byteAt t 0), iv (byteAt t 1), iv (byteAt t 2), sv (t.extract 3 t.size), bv true] else .tup [iv 0, iv 0, iv 0, sv ⟨#[]⟩, bv false]
theorem rpT_t {t : ByteArray} (h1 : 3 ≤ t.size) (h2 : within (byteAt t 2) 1 15 = true) (h3 : byteAt t 1 < byteAt t 2) : rpT t = .tup [iv (byteAt t 0), iv (byteAt t 1), iv (byteAt t 2), sv (t.extract 3 t.size), bv true] := by
  simp [rpT, rpOk, h1, h2, h3]
theorem rpT_f {t : ByteArray} (h : t.size < 3 ∨ within (byteAt t 2) 1 15 = false ∨ byteAt t 2 ≤ byteAt t 1) : rpT t = .tup [iv 0, iv 0, iv 0, sv ⟨#[]⟩, bv false] := by
  have : rpOk t = false := by
    simp only [rpOk, Bool.and_eq_false_iff, decide_eq_false_iff_not]
    rcases h with h | h | h
    · left; omega
    · right; left; exact h
    · right; right; omega
  simp [rpT, this]

theorem rpT_ns (t : ByteArray) : nsT (rpT t) = true := by unfold rpT; split <;> rfl
theorem rpT_nz (t : ByteArray) : nzT (rpT t) = true := by unfold rpT; split <;> rfl
theorem rpT_bel (t : ByteArray) : belT 0 (rpT t) = true := by unfold rpT; split <;> rfl

/-- the place of the first that is so, or -1 -/
def fIdx {α : Type} (p : α → Bool) (l : List α) : Int := if l.findIdx p < l.length then l.findIdx p else -1
theorem fIdx_at {α : Type} {p : α → Bool} {l : List α} {i : Nat} (h : i < l.length) (hb : ∀ j (hj : j < l.length), j < i → p l[j] = false) (ht : p l[i] = true) : fIdx p l = i := by
  have : l.findIdx p = i := (List.findIdx_eq h).2 ⟨ht, fun j hj => hb j (by omega) hj⟩
  unfold fIdx; rw [this, if_pos h]
theorem fIdx_none {α : Type} {p : α → Bool} {l : List α} (hb : ∀ j (hj : j < l.length), p l[j] = false) : fIdx p l = -1 := by
  have : l.findIdx p = l.length := List.findIdx_eq_length.2 fun x hx => by
    obtain ⟨j, hj, rfl⟩ := List.getElem_of_mem hx
    exact hb j hj
  unfold fIdx; rw [this, if_neg (by omega)]
theorem fIdx_cases {α : Type} (p : α → Bool) (l : List α) : (fIdx p l = -1 ∧ ∀ x, x ∈ l → p x = false) ∨ ∃ (i : Nat) (h : i < l.length), fIdx p l = i ∧ p l[i] = true ∧ ∀ j (hj : j < l.length), j < i → p l[j] = false := by
  by_cases h : l.findIdx p < l.length
  · refine .inr ⟨l.findIdx p, h, by unfold fIdx; rw [if_pos h], List.findIdx_getElem (w := h), fun j hj hlt => ?_⟩
    have := List.not_of_lt_findIdx hlt
    simpa using this
  · refine .inl ⟨by unfold fIdx; rw [if_neg h], fun x hx => ?_⟩
    have h2 : l.findIdx p = l.length := by have := List.findIdx_le_length (p := p) (xs := l); omega
    exact List.findIdx_eq_length.1 h2 x hx
def sameK (fr id : Int) (h : Held) : Bool := decide (h.fr = fr) && decide (h.id = id)
theorem sameK_t {fr id : Int} {h : Held} (h1 : h.fr = fr) (h2 : h.id = id) : sameK fr id h = true := by simp [sameK, h1, h2]
theorem sameK_f {fr id : Int} {h : Held} (h1 : h.fr ≠ fr ∨ h.id ≠ id) : sameK fr id h = false := by
  simp only [sameK, Bool.and_eq_false_iff, decide_eq_false_iff_not]; exact h1

/-- what is held, as it is to be -/
def rowOk (b : Bool) (s : ByteArray) : Bool := decide (s.size ≤ 120) && (b || decide (s = ⟨#[]⟩))
def rowsOk (h : Held) (i : Nat) : Prop := ∀ j (h1 : j < h.hav.length) (h2 : j < h.parts.length), j < i → rowOk h.hav[j] h.parts[j] = true
def haveN (l : List Bool) (i : Nat) : Nat := (l.take i).countP id
theorem haveN_t {l : List Bool} {i : Nat} (h : i < l.length) (hb : l[i] = true) : haveN l (i + 1) = haveN l i + 1 := by
  unfold haveN; rw [List.take_add_one, List.getElem?_eq_getElem h, hb]; simp [List.countP_append]
theorem haveN_f {l : List Bool} {i : Nat} (h : i < l.length) (hb : l[i] = false) : haveN l (i + 1) = haveN l i := by
  unfold haveN; rw [List.take_add_one, List.getElem?_eq_getElem h, hb]; simp [List.countP_append]
theorem haveN_le (l : List Bool) (i : Nat) : haveN l i ≤ i := by
  unfold haveN; have := List.countP_le_length (p := id) (l := l.take i); simp at this; omega
structure HeldGood (h : Held) : Prop where
  fr : within h.fr 1 99 = true
  id : within h.id 0 255 = true
  cnt : within h.cnt 2 15 = true
  parts : (h.parts.length : Int) = h.cnt
  hav : (h.hav.length : Int) = h.cnt
  rows : rowsOk h h.hav.length
  have1 : 1 ≤ haveN h.hav h.hav.length
  have2 : (haveN h.hav h.hav.length : Int) < h.cnt
  til : within h.til 0 1000000000 = true
noncomputable instance (h : Held) : Decidable (HeldGood h) := Classical.propDecidable _
noncomputable def heldB (h : Held) : Bool := decide (HeldGood h)
theorem heldB_t {h : Held} (g : HeldGood h) : heldB h = true := decide_eq_true g
theorem heldB_f {h : Held} (g : ¬ HeldGood h) : heldB h = false := decide_eq_false g
theorem rowOk_big {b : Bool} {s : ByteArray} (h : 120 < s.size) : rowOk b s = false := by simp [rowOk]; omega
theorem rowOk_junk {b : Bool} {s : ByteArray} (hb : b = false) (h : s ≠ ⟨#[]⟩) : rowOk b s = false := by simp [rowOk, hb, h]
theorem rowOk_t {b : Bool} {s : ByteArray} (h1 : s.size ≤ 120) (h2 : b = true ∨ s = ⟨#[]⟩) : rowOk b s = true := by
  rcases h2 with h | h <;> simp [rowOk, h, h1] <;> decide
theorem rowsOk_zero (h : Held) : rowsOk h 0 := fun j _ _ hj => absurd hj (by omega)
theorem rowsOk_succ {h : Held} {i : Nat} (hr : rowsOk h i) (h1 : i < h.hav.length) (h2 : i < h.parts.length) (ho : rowOk h.hav[i] h.parts[i] = true) : rowsOk h (i + 1) := fun j g1 g2 hj => by
  by_cases e : j = i
  · subst e; exact ho
  · exact hr j g1 g2 (by omega)
theorem not_row {h : Held} {i : Nat} (h1 : i < h.hav.length) (h2 : i < h.parts.length) (ho : rowOk h.hav[i] h.parts[i] = false) : ¬ HeldGood h := fun g => by
  have := g.rows i h1 h2 h1; rw [ho] at this; cases this
/-- the first i are good, and no two of them the same -/
def goodTo (l : List Held) (i : Nat) : Prop := ∀ j (hj : j < l.length), j < i → HeldGood l[j] ∧ ∀ k (hk : k < l.length), k < j → sameK l[j].fr l[j].id l[k] = false
structure ShelfGood (l : List Held) : Prop where
  rows : goodTo l l.length
  len : l.length ≤ 3
noncomputable instance (l : List Held) : Decidable (ShelfGood l) := Classical.propDecidable _
noncomputable def shelfB (l : List Held) : Bool := decide (ShelfGood l)
theorem goodTo_succ {l : List Held} {i : Nat} (h : goodTo l i) (hi : i < l.length) (hg : HeldGood l[i]) (hk : ∀ k (hk : k < l.length), k < i → sameK l[i].fr l[i].id l[k] = false) : goodTo l (i + 1) := fun j hj hlt => by
  by_cases e : j = i
  · subst e; exact ⟨hg, hk⟩
  · exact h j hj (by omega)
theorem fIdx_self {l : List Held} {i : Nat} (hi : i < l.length) : fIdx (sameK l[i].fr l[i].id) l = i ↔ ∀ k (hk : k < l.length), k < i → sameK l[i].fr l[i].id l[k] = false := by
  constructor
  · intro h k hk hlt
    rcases fIdx_cases (sameK l[i].fr l[i].id) l with ⟨h1, _⟩ | ⟨j, hj, h1, _, h3⟩
    · omega
    · have : j = i := by omega
      subst this
      exact h3 k hk hlt
  · intro h
    exact fIdx_at hi (fun j hj hlt => h j hj hlt) (sameK_t rfl rfl)
theorem shelfB_f {l : List Held} (h : ¬ ShelfGood l) : shelfB l = false := decide_eq_false h
theorem shelfB_t {l : List Held} (h : ShelfGood l) : shelfB l = true := decide_eq_true h
theorem not_good_row {l : List Held} {i : Nat} (hi : i < l.length) (h : ¬ HeldGood l[i]) : ¬ ShelfGood l := fun g => h (g.rows i hi hi).1
theorem not_good_key {l : List Held} {i k : Nat} (hi : i < l.length) (hk : k < l.length) (hlt : k < i) (h : sameK l[i].fr l[i].id l[k] = true) : ¬ ShelfGood l := fun g => by
  have := (g.rows i hi hi).2 k hk hlt; rw [h] at this; cases this
def bIdx (b : Bool) (l : List Bool) : Int := fIdx (fun x => x == b) l
theorem bIdx_nneg (b : Bool) (l : List Bool) : decide (0 ≤ bIdx b l) = decide (b ∈ l) := by
  rcases fIdx_cases (fun x => x == b) l with ⟨h1, h2⟩ | ⟨i, hi, h1, h2, _⟩
  · rw [bIdx, h1, decide_eq_false (by omega), decide_eq_false]
    intro hm; have := h2 b hm; simp at this
  · rw [bIdx, h1, decide_eq_true (by omega), decide_eq_true]
    have : l[i] = b := by simpa using h2
    rw [← this]; exact List.getElem_mem hi
theorem all_f {l : List Bool} {i : Nat} (h : i < l.length) (hb : l[i] = false) : l.all id = false := by
  rw [List.all_eq_false]; exact ⟨l[i], List.getElem_mem h, by simp [hb]⟩
theorem all_t {l : List Bool} (hb : ∀ j (hj : j < l.length), l[j] = true) : l.all id = true := by
  rw [List.all_eq_true]; intro x hx
  obtain ⟨j, hj, rfl⟩ := List.getElem_of_mem hx
  simp [hb j hj]
end Go.Vm.S
