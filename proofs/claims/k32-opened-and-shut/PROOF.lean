import PyProof.Rows.All
import Wide.All
import OpenK.AllK
import Wide.FinOn
import HandS.ForMost
import HandS.TupSets
import KE.SortData
import HandS.IsInst
import PySem.Challenge.RW_goalsmith_k32_opened_and_shut
import HandS.Walk
import HandS.More
set_option Elab.async false
set_option linter.all false
set_option maxRecDepth 100000
set_option maxHeartbeats 4000000
/-! sets of tuples of texts (and ints): their order is the world's; set(xs), sorted(set(xs)). -/
namespace SetK
open PySem PySem.Spec PyProof.Rows L2

abbrev kh (P : Program) (w : World) (k : List Key) : Int := tupleKeyHash (mixKind P w) k
abbrev Tk (P : Program) (w : World) (h : Heap) (k : List Key) (b : Addr) : Prop := IsTupleKey (mixKind P w) h k b

section
variable {P : Program} {w : World} {A : Around} {E : Value → Shared → Prop} {s : Shared}

theorem flat_items {k : List Key} {vs : List Value} (z : ItemsAre (mixKind P w) k vs) : ∀ v ∈ vs, (∃ i t, v = Value.int i t) ∨ ∃ x t, v = Value.str x t := by
  induction z with
  | nil => intro v q; cases q
  | cons h1 _ ih =>
    intro v q
    rcases List.mem_cons.mp q with rfl | q
    · rcases keyIs_shape h1 with ⟨i, t, _, e⟩ | ⟨x, t, _, e⟩
      · exact .inl ⟨i, t, e⟩
      · exact .inr ⟨x, t, e⟩
    · exact ih v q
theorem noClass_flat (n : Nat) {v : Value} (z : (∃ i t, v = Value.int i t) ∨ ∃ x t, v = Value.str x t) : ofAClassStatement n v = pure false := by
  rcases z with ⟨i, t, rfl⟩ | ⟨x, t, rfl⟩ <;> cases n <;> rfl
theorem hashBy_flat (n : Nat) {v : Value} (z : (∃ i t, v = Value.int i t) ∨ ∃ x t, v = Value.str x t) : ∃ c, hashByValue n v = pure c := by
  rcases z with ⟨i, t, rfl⟩ | ⟨x, t, rfl⟩
  · exact ⟨true, by cases n <;> rfl⟩
  · exact ⟨false, by cases n <;> rfl⟩
theorem noClass_tuple {k : List Key} {b : Addr} {Q : Bool → Shared → Prop} (z : Tk P w s.heap k b) (q : Q false s) : wpAny (model P w) A (ofAClassStatement 8 (.ref b)) Q E s := by
  have ty := z.typeIs
  obtain ⟨ob, its, n, ho, _, hd, hi⟩ := z
  unfold ofAClassStatement
  refine wpAny_bind (wpAny_typeOf ty ?_)
  dsimp only
  have e : (("tuple" : String) == "tuple") = true := by decide
  simp only [e, if_true, Bool.not_true, Bool.false_eq_true, if_false]
  try refine wpAny_bind (wpAny_pure ?_)
  try simp only [Bool.not_true, Bool.false_eq_true, if_false]
  show wpAny _ _ (seqItems? (.ref b) >>= _) _ _ s
  refine wpAny_bind (wpAny_seqItems ho hd ?_)
  dsimp only
  refine wpAny_bind ?_
  show wpAny _ _ (forIn its _ _) _ _ s
  rw [← Array.forIn_toList]
  refine wpAny_forIn_list _ (fun rest r s1 => r.1 = none ∧ s1 = s ∧ ∀ v ∈ rest, (∃ i t, v = Value.int i t) ∨ ∃ x t, v = Value.str x t) _ ?_ ?_ _ _ ⟨rfl, rfl, flat_items hi⟩
  · rintro v rest r s1 ⟨_, rfl, fl⟩
    rw [noClass_flat _ (fl v List.mem_cons_self)]
    refine wpAny_bind (wpAny_pure ?_)
    simp only [Bool.false_eq_true, if_false]
    exact wpAny_pure ⟨rfl, rfl, fun u hu => fl u (List.mem_cons_of_mem _ hu)⟩
  · rintro ⟨r1, r2⟩ s1 ⟨e1, rfl, _⟩
    simp only at e1
    subst e1
    exact wpAny_pure q
theorem hashBy_tuple {k : List Key} {b : Addr} {Q : Bool → Shared → Prop} (z : Tk P w s.heap k b) (q : ∀ c, Q c s) : wpAny (model P w) A (hashByValue 8 (.ref b)) Q E s := by
  have ty := z.typeIs
  obtain ⟨ob, its, n, ho, _, hd, hi⟩ := z
  unfold hashByValue
  refine wpAny_bind (wpAny_specialOf ty F.slot_tuple_hash.lookup ?_)
  show wpAny _ _ (seqItems? (.ref b) >>= _) _ _ s
  refine wpAny_bind (wpAny_seqItems ho hd ?_)
  refine wpAny_bind ?_
  show wpAny _ _ (forIn its _ _) _ _ s
  rw [← Array.forIn_toList]
  refine wpAny_forIn_list _ (fun rest r s1 => r.1 = none ∧ s1 = s ∧ ∀ v ∈ rest, (∃ i t, v = Value.int i t) ∨ ∃ x t, v = Value.str x t) _ ?_ ?_ _ _ ⟨rfl, rfl, flat_items hi⟩
  · rintro v rest r s1 ⟨_, rfl, fl⟩
    obtain ⟨c, e⟩ := hashBy_flat 7 (fl v List.mem_cons_self)
    rw [e]
    refine wpAny_bind (wpAny_pure ?_)
    cases c
    · simp only [Bool.not_false, if_true]
      exact wpAny_pure (wpAny_pure (q false))
    · simp only [Bool.not_true, Bool.false_eq_true, if_false]
      exact wpAny_pure ⟨rfl, rfl, fun u hu => fl u (List.mem_cons_of_mem _ hu)⟩
  · rintro ⟨r1, r2⟩ s1 ⟨e1, rfl, _⟩
    simp only at e1
    subst e1
    exact wpAny_pure (q true)
/-- looking among such tuples shows nothing of the table -/
theorem unseen {k : List Key} {b : Addr} {Q : Bool → Shared → Prop} (z : Tk P w s.heap k b) {ys : List Value} (zs : ∀ y ∈ ys, ∃ k1 c, y = Value.ref c ∧ Tk P w s.heap k1 c) (q : Q false s) :
    wpAny (model P w) A (searchCouldBeSeen (.ref b) ys) Q E s := by
  unfold searchCouldBeSeen
  refine wpAny_bind ?_
  refine wpAny_forIn_list _ (fun rest r s1 => r.1 = none ∧ s1 = s ∧ ∀ y ∈ rest, ∃ k1 c, y = Value.ref c ∧ Tk P w s.heap k1 c) _ ?_ ?_ _ _ ⟨rfl, rfl, zs⟩
  · rintro v rest r s1 ⟨_, rfl, fl⟩
    obtain ⟨k1, c, rfl, zc⟩ := fl v List.mem_cons_self
    have more : ∀ y ∈ rest, ∃ k1 c, y = Value.ref c ∧ Tk P w s1.heap k1 c := fun u hu => fl u (List.mem_cons_of_mem _ hu)
    dsimp only
    by_cases very : (b == c || (carriedByValue (.ref b) && carriedByValue (.ref c))) = true
    · exact wp_if_pos very (wpAny_pure ⟨rfl, rfl, more⟩)
    · refine wp_if_neg very ?_
      refine wpAny_bind (wpAny_eqIsQuiet_tuple z ?_)
      simp only [Bool.not_true, Bool.false_eq_true, if_false]
      refine wpAny_bind (wpAny_eqIsQuiet_tuple zc ?_)
      simp only [Bool.not_true, Bool.false_eq_true, if_false]
      refine wpAny_bind (noClass_tuple z ?_)
      simp only [Bool.false_eq_true, if_false]
      refine wpAny_bind (noClass_tuple zc ?_)
      simp only [Bool.false_eq_true, if_false]
      exact wpAny_pure ⟨rfl, rfl, more⟩
  · rintro ⟨r1, r2⟩ s1 ⟨e1, rfl, _⟩
    simp only at e1
    subst e1
    exact wpAny_pure q
end
end SetK
namespace SetK
open PySem PySem.Spec PyProof.Rows L2

def rows (P : Program) (w : World) (L : List (Addr × List Key)) : List (Int × Value) := L.map fun q => (kh P w q.2, Value.ref q.1)
theorem rows_len {P : Program} {w : World} {L : List (Addr × List Key)} {es : Array (Int × Value)} (e : es.toList = rows P w L) : es.size = L.length := by
  have z := congrArg List.length e
  rw [Array.length_toList, rows, List.length_map] at z
  exact z
theorem rows_at {P : Program} {w : World} {L : List (Addr × List Key)} {es : Array (Int × Value)} (e : es.toList = rows P w L) {i : Nat} {q : Addr × List Key} (g : L[i]? = some q) : es[i]? = some (kh P w q.2, Value.ref q.1) := by
  rw [← Array.getElem?_toList, e, rows, List.getElem?_map, g]
  rfl
structure SetR (P : Program) (w : World) (h : Heap) (a : Addr) (L : List (Addr × List Key)) (es : Array (Int × Value)) (ep : Nat) (t : SetTable) : Prop where
  ob : ∃ o, h.get? a = some o ∧ o.ExactSet ∧ o.data = .set es ep t
  rw_ : es.toList = rows P w L
  tab : TabOk t (L.map fun q => kh P w q.2)
  nd : (L.map (·.2)).Nodup
  tup : ∀ q ∈ L, Tk P w h q.2 q.1
  led : w.params.followText "set-order" = true ∨ t.led = true
  room : L.length * 5 < t.mask * 3
  few : L.length < 64

section
variable {P : Program} {w : World} {A : Around} {E : Value → Shared → Prop} {s : Shared} {a : Addr} {L : List (Addr × List Key)} {es : Array (Int × Value)} {ep : Nat} {t : SetTable}
theorem SetR.fit (z : SetR P w s.heap a L es ep t) : t.fits es.size = true := by
  have h1 := z.tab.sz
  rw [List.length_map] at h1
  have h2 := rows_len z.rw_
  have h3 := z.room
  unfold SetTable.fits SetTable.fill
  rw [z.tab.dm, Bool.and_eq_true, beq_iff_eq, decide_eq_true_eq]
  show t.place.size = es.size ∧ t.place.size + 0 ≤ t.mask
  omega
theorem SetR.stays (z : SetR P w s.heap a L es ep t) : ¬ t.gaveWay = true := by
  unfold SetTable.gaveWay
  rw [mask_odd z.tab.mok]
  decide
/-- the c-th probe -/
abbrev pr (m : Nat) (hv : Int) (c : Nat) : SetTable.Probe := nth m (runAt m (SetTable.bits hv % (m + 1)) (SetTable.bits hv)) c
theorem pr_dummy (m : Nat) (hv : Int) (c : Nat) : (pr m hv c).dummy = none := by
  have key : ∀ (n : Nat) (p : SetTable.Probe), p.dummy = none → (nth m p n).dummy = none := by
    intro n
    induction n with
    | zero => exact fun p e => e
    | succ n ih =>
      intro p e
      refine ih (adv m p) ?_
      unfold adv
      split <;> exact e
  exact key c _ rfl
theorem pr_add (m : Nat) (hv : Int) (c q : Nat) : nth m (pr m hv c) q = pr m hv (c + q) := (nth_add m c _ q).symm
theorem pr_way (m : Nat) (hv : Int) (c q : Nat) : (nth m (pr m hv c) q).j = way m hv (c + q) := congrArg SetTable.Probe.j (pr_add m hv c q)

theorem SetR.seek (z : SetR P w s.heap a L es ep t) {x : Addr} {k : List Key} (zx : Tk P w s.heap k x) (hu : A.units < cLine) {N : Nat} (nf : N < 10 * SetTable.turns t.mask)
    (nh : way t.mask (kh P w k) N ∉ t.place.toList) (nb : ∀ c, c < N → way t.mask (kh P w k) c ∈ t.place.toList) {Q : SetFound → Shared → Prop}
    (yes : k ∈ L.map (·.2) → Q (.there none) s) (no : k ∉ L.map (·.2) → Q (.free (way t.mask (kh P w k) N) false) s) :
    ∀ (f c : Nat) (stand : Option SetTable.Probe), stand.getD (t.probeStart (kh P w k)) = pr t.mask (kh P w k) c → c ≤ N → N - c < f →
      (∀ (i : Nat) q, L[i]? = some q → q.2 = k → ∃ c1, c ≤ c1 ∧ c1 < N ∧ t.place.toList[i]? = some (way t.mask (kh P w k) c1)) →
      wpAny (model P w) A (setSearchFrom a (.ref x) (kh P w k) true f stand) Q E s
  | 0, _, _, _, _, hf, _ => absurd hf (Nat.not_lt_zero _)
  | f + 1, c, stand, hst, hc, hf, ahead => by
    obtain ⟨ob, go, ge, gd⟩ := z.ob
    rw [setSearchFrom_succ]
    refine wpAny_bind (wpAny_setState_of go gd z.fit ?_)
    dsimp only
    refine wp_if_neg z.stays ?_
    try refine wpAny_bind (wpAny_pure ?_)
    have spec := go_spec t z.tab.ris z.tab.dm (fun i => (es[i]?.map (·.1)).getD 0) (kh P w k) (10 * SetTable.turns t.mask) (N - c) _ (pr_dummy t.mask (kh P w k) c) (by omega)
      (fun q hq => by rw [pr_way]; exact nb (c + q) (by omega)) (by rw [pr_way, show c + (N - c) = N by omega]; exact nh)
    have hAt : ∀ (i : Nat) q, L[i]? = some q → (fun i => (es[i]?.map (·.1)).getD 0) i = kh P w q.2 := fun i q g => by
      show (es[i]?.map (·.1)).getD 0 = _
      rw [rows_at z.rw_ g]
      rfl
    rcases spec with ⟨q, i, hq, hi, hh, hno, hpr⟩ | ⟨hno, hpr⟩
    · have hpr2 : t.probe (fun i => (es[i]?.map (·.1)).getD 0) (kh P w k) (stand.getD (t.probeStart (kh P w k))) = some (.candidate (way t.mask (kh P w k) (c + q)) i (pr t.mask (kh P w k) (c + (q + 1)))) := by
        rw [hst, ← pr_way, ← pr_add]
        exact hpr
      rw [hpr2]
      dsimp only
      rw [pr_way] at hi
      have hil : i < L.length := by
        have h1 : i < t.place.toList.length := (List.getElem?_eq_some_iff.mp hi).1
        have h2 := z.tab.sz
        rw [List.length_map] at h2
        rw [Array.length_toList] at h1
        omega
      have hp : L[i]? = some L[i] := List.getElem?_eq_getElem hil
      generalize L[i] = p at hp
      have hmem : p ∈ L := List.mem_of_getElem? hp
      have zp := z.tup p hmem
      have rest : wpAny (model P w) A (searchRest a (.ref x) (kh P w k) true f es t (way t.mask (kh P w k) (c + q)) i (pr t.mask (kh P w k) (c + (q + 1)))) Q E s := by
        unfold searchRest
        rw [rows_at z.rw_ hp]
        dsimp only
        refine wpAny_bind (wpAny_holding (wpAny_eqBool_tuple hu zp zx ?_))
        refine wpAny_bind (wpAny_setState_of go gd z.fit ?_)
        dsimp only
        by_cases hkk : p.2 = k
        · refine wp_if_pos (by simp [hkk]) ?_
          exact wpAny_pure (yes (List.mem_map.mpr ⟨p, hmem, hkk⟩))
        · refine wp_if_neg (by simp [hkk]) ?_
          try refine wpAny_bind (wpAny_pure ?_)
          rw [sameMem]
          dsimp only
          have hsl : t.slot (way t.mask (kh P w k) (c + q)) = .live i := slot_live z.tab.ris hi
          simp only [if_true, hsl, rows_at z.rw_ hp]
          refine wpAny_bind (wpAny_isSame_ref_self (wpAny_bind (wpAny_pure ?_)))
          simp only [if_true]
          refine wp_if_neg (by simp [hkk]) ?_
          refine SetR.seek z zx hu nf nh nb yes no f (c + (q + 1)) _ rfl (by omega) (by omega) fun i0 p0 h0 hk0 => ?_
          obtain ⟨c1, a1, a2, a3⟩ := ahead i0 p0 h0 hk0
          refine ⟨c1, ?_, a2, a3⟩
          rcases Nat.lt_trichotomy c1 (c + q) with y | y | y
          · refine absurd ((hAt i0 p0 h0).trans (congrArg (kh P w) hk0)) ?_
            exact hno (c1 - c) i0 (by omega) (by rw [pr_way, show c + (c1 - c) = c1 by omega]; exact a3)
          · rw [y] at a3
            have s0 := slot_live z.tab.ris a3
            rw [hsl] at s0
            injection s0 with s0
            rw [← s0, hp] at h0
            exact absurd ((congrArg Prod.snd (Option.some.inj h0)).trans hk0) hkk
          · omega
      by_cases hl : t.led = true
      · refine wp_if_neg (by simp [hl]) ?_
        try refine wpAny_bind (wpAny_pure ?_)
        exact rest
      · refine wp_if_pos (by simp [hl]) ?_
        refine wpAny_bind (unseen zx (fun y hy => ?_) ?_)
        · obtain ⟨e, he, ee⟩ := List.mem_map.mp hy
          have he1 : e ∈ es ∧ e.1 = kh P w k := by simpa using he
          have he2 : e ∈ es.toList := by simpa using he1.1
          rw [z.rw_] at he2
          obtain ⟨p2, hp2, e2⟩ := List.mem_map.mp he2
          refine ⟨p2.2, p2.1, ?_, z.tup p2 hp2⟩
          rw [← ee, ← e2]
        · refine wp_if_neg (by decide) ?_
          try refine wpAny_bind (wpAny_pure ?_)
          exact rest
    · have hpr2 : t.probe (fun i => (es[i]?.map (·.1)).getD 0) (kh P w k) (stand.getD (t.probeStart (kh P w k))) = some (.empty (way t.mask (kh P w k) N) none) := by
        have e2 : way t.mask (kh P w k) N = (nth t.mask (pr t.mask (kh P w k) c) (N - c)).j := by
          rw [pr_way, show c + (N - c) = N by omega]
        rw [hst, e2]
        exact hpr
      rw [hpr2]
      dsimp only
      refine wpAny_pure (no fun hm => ?_)
      obtain ⟨p0, h0, hk0⟩ := List.mem_map.mp hm
      obtain ⟨i0, hi0, e0⟩ := List.getElem_of_mem h0
      have h00 : L[i0]? = some p0 := by rw [List.getElem?_eq_getElem hi0, e0]
      obtain ⟨c1, a1, a2, a3⟩ := ahead i0 p0 h00 hk0
      refine absurd ((hAt i0 p0 h00).trans (congrArg (kh P w) hk0)) ?_
      exact hno (c1 - c) i0 (by omega) (by rw [pr_way, show c + (c1 - c) = c1 by omega]; exact a3)

theorem SetR.find (z : SetR P w s.heap a L es ep t) {x : Addr} {k : List Key} (zx : Tk P w s.heap k x) (hu : A.units < cLine) {Q : SetFound → Shared → Prop}
    (yes : k ∈ L.map (·.2) → Q (.there none) s)
    (no : ∀ N, k ∉ L.map (·.2) → way t.mask (kh P w k) N ∉ t.place.toList → (∀ c, c < N → way t.mask (kh P w k) c ∈ t.place.toList) → Q (.free (way t.mask (kh P w k) N) false) s) :
    wpAny (model P w) A (setSearch a (.ref x) (kh P w k) true) Q E s := by
  have rm := z.room
  obtain ⟨N, nf, nh, nb⟩ := z.tab.first (by rw [List.length_map]; omega) (kh P w k)
  have big : N < 100000 := by
    have : 10 * SetTable.turns t.mask ≤ 1420 := by
      unfold SetTable.turns
      rcases z.tab.mok with e | e | e <;> omega
    omega
  unfold setSearch
  refine z.seek zx hu nf nh nb yes (fun hn => no N hn nh nb) 100000 0 none rfl (Nat.zero_le _) (by omega) fun i p hp hk => ?_
  have hi : (L.map fun q => kh P w q.2)[i]? = some (kh P w k) := by
    rw [List.getElem?_map, hp, ← hk]
    rfl
  have hil : i < t.place.toList.length := by
    have h1 : i < L.length := (List.getElem?_eq_some_iff.mp hp).1
    have h2 := z.tab.sz
    rw [List.length_map] at h2
    rw [Array.length_toList]
    omega
  have hj := List.getElem?_eq_getElem hil
  obtain ⟨c, hc, e⟩ := z.tab.before nh hi hj
  exact ⟨c, Nat.zero_le _, hc, by rw [hj, e]⟩
end
end SetK
namespace SetK
open PySem PySem.Spec PyProof.Rows L2
section
variable {P : Program} {w : World} {A : Around} {E : Value → Shared → Prop} {s : Shared} {a : Addr} {L : List (Addr × List Key)} {es : Array (Int × Value)} {ep : Nat} {t : SetTable}

theorem tk_but {h h1 : Heap} {k : List Key} {b : Addr} {o : Obj} (z : Tk P w h k b) (ho : h.get? a = some o) (hd : o.data = .set es ep t) (sb : Heap.SameBut a h h1) : Tk P w h1 k b := by
  obtain ⟨ob, its, n, go, gc, gd, gi⟩ := z
  refine ⟨ob, its, n, (sb.2 b ?_).trans go, gc, gd, gi⟩
  rintro rfl
  obtain rfl : ob = o := Option.some.inj (go.symm.trans ho)
  rw [hd] at gd
  exact nomatch gd
theorem tk_keep {h h1 : Heap} {k : List Key} {b : Addr} (z : Tk P w h k b) (hk : ∀ c o, h.get? c = some o → h1.get? c = some o) : Tk P w h1 k b := by
  obtain ⟨ob, its, n, go, r⟩ := z
  exact ⟨ob, its, n, hk b ob go, r⟩

theorem pick_rows (order : Array Nat) (e : es.toList = rows P w L) (hp : order.toList.Perm (List.range L.length)) :
    ∃ M, (order.filterMap (es[·]?)).toList = rows P w M ∧ M.Perm L ∧ (M.map fun q => kh P w q.2) = order.toList.map fun i => (es.map (·.1)).getD i 0 := by
  have hsz := rows_len e
  have key : ∀ l : List Nat, (∀ i ∈ l, i < L.length) → l.filterMap (fun i => es[i]?) = rows P w (l.filterMap fun i => L[i]?) ∧ ((l.filterMap fun i => L[i]?).map fun q => kh P w q.2) = l.map fun i => (es.map (·.1)).getD i 0 := by
    intro l
    induction l with
    | nil => exact fun _ => ⟨rfl, rfl⟩
    | cons i l ih =>
      intro hl
      have hi := hl i List.mem_cons_self
      obtain ⟨e1, e2⟩ := ih fun j hj => hl j (List.mem_cons_of_mem _ hj)
      have g : L[i]? = some L[i] := List.getElem?_eq_getElem hi
      have ge := rows_at e g
      refine ⟨?_, ?_⟩
      · rw [List.filterMap_cons_some ge, List.filterMap_cons_some g, e1]
        rfl
      · rw [List.filterMap_cons_some g, List.map_cons, List.map_cons, e2]
        have e5 : (es.map (·.1))[i]? = some (kh P w (L[i]).2) := by
          rw [Array.getElem?_map, ge]
          rfl
        rw [show (es.map (·.1)).getD i 0 = kh P w (L[i]).2 by simp [Array.getD_eq_getD_getElem?, e5]]
  obtain ⟨e1, e2⟩ := key order.toList fun i hi => List.mem_range.mp (hp.mem_iff.mp hi)
  refine ⟨order.toList.filterMap fun i => L[i]?, by simpa using e1, ?_, e2⟩
  have h1 : (order.toList.filterMap fun i => L[i]?).Perm ((List.range L.length).filterMap fun i => L[i]?) := hp.filterMap _
  have h2 : ∀ n, n ≤ L.length → (List.range n).filterMap (fun i => L[i]?) = L.take n := by
    intro n
    induction n with
    | zero => exact fun _ => rfl
    | succ n ih =>
      intro hn
      have hlt : n < L.length := hn
      rw [List.range_succ, List.filterMap_append, ih (Nat.le_of_lt hlt), List.take_succ, List.getElem?_eq_getElem hlt, List.filterMap_cons_some (List.getElem?_eq_getElem hlt)]
      rfl
  rw [h2 L.length (Nat.le_refl _), List.take_length] at h1
  exact h1

/-- the table laid anew, larger -/
theorem relay {o : Obj} (ho : s.heap.get? a = some o) (hex : o.ExactSet) (hd : o.data = .set es ep t) (er : es.toList = rows P w L) (hsz : t.place.size = es.size) (hdm : t.dummies = #[]) (hfl : es.size ≤ t.mask)
    (nd : (L.map (·.2)).Nodup) (tup : ∀ q ∈ L, Tk P w s.heap q.2 q.1) (ld : w.params.followText "set-order" = true ∨ t.led = true) (few : L.length < 64) {wanted M : Nat}
    (hw : SetTable.sizeAbove wanted - 1 = M) (hM : MaskOk M) (hw2 : SetTable.sizeAbove wanted ≤ 128) (hn : L.length * 5 < M * 3) {Q : Unit → Shared → Prop}
    (hQ : ∀ h1 L1 es1 ep1 t1, Heap.SameBut a s.heap h1 → SetR P w h1 a L1 es1 ep1 t1 → L1.Perm L → Q () { s with heap := h1 }) : wpAny (model P w) A (setRelay a wanted) Q E s := by
  have hsl := rows_len er
  have hfits : t.fits es.size = true := by
    unfold SetTable.fits SetTable.fill
    rw [hdm, Bool.and_eq_true, beq_iff_eq, decide_eq_true_eq]
    show t.place.size = es.size ∧ t.place.size + 0 ≤ t.mask
    omega
  obtain ⟨t1, order, e, hp, T, em, el, _, _⟩ := relaid_ok t (hs := es.map (·.1)) (wanted := wanted) hw hM (by rw [Array.size_map, hsl]; omega)
  rw [Array.size_map, hsl] at hp
  obtain ⟨L1, r1, r2, r3⟩ := pick_rows order er hp
  rw [← r3] at T
  have hs2 : (order.filterMap (es[·]?)).size = es.size := by rw [rows_len r1, r2.length_eq, hsl]
  rw [setRelay_eq]
  refine wpAny_bind (wpAny_setState_of ho hd hfits ?_)
  dsimp only
  refine wp_if_neg (by rw [sizeLine_eq]; omega) ?_
  try refine wpAny_bind (wpAny_pure ?_)
  rw [e]
  dsimp only
  refine wpAny_bind ?_
  refine wp_if_neg (by rw [hs2]; simp) ?_
  try refine wpAny_bind (wpAny_pure ?_)
  refine wpAny_pure ?_
  dsimp only
  refine wpAny_storeSet_of ho hd ?_ (by rw [hs2, hsl, sizeLine_eq]; omega)
  have sb : Heap.SameBut a s.heap (s.heap.update a (Obj.putSet (order.filterMap (es[·]?)) t1)) := Heap.SameBut.update ..
  refine hQ _ L1 (order.filterMap (es[·]?)) (ep + 1) t1 sb ⟨⟨_, store_at ho hd, ⟨hex.1, hex.2.1, hex.2.2⟩, rfl⟩, r1, T, (r2.map (·.2)).nodup_iff.mpr nd, fun p hpm => tk_but (tup p (r2.mem_iff.mp hpm)) ho hd sb, by rw [el]; exact ld, ?_, ?_⟩ r2
  · rw [r2.length_eq, em]
    exact hn
  · rw [r2.length_eq]
    exact few

def storing (a : Addr) (es1 : Array (Int × Value)) (n : Nat) (t1 : SetTable) : Sem Bool := do
  storeSet a es1 t1
  if !false && t1.tooFull then setRelay a (SetTable.grown (n + 1))
  return true
/-- one more, or one that is there -/
theorem SetR.add (z : SetR P w s.heap a L es ep t) {x : Addr} {k : List Key} (zx : Tk P w s.heap k x) (hu : A.units < cLine) (hfew : k ∉ L.map (·.2) → L.length + 1 < 64) {Q : Bool → Shared → Prop}
    (hQ : ∀ b h1 L1 es1 ep1 t1, Heap.SameBut a s.heap h1 → SetR P w h1 a L1 es1 ep1 t1 → (k ∈ L.map (·.2) → L1 = L) → (k ∉ L.map (·.2) → L1.Perm ((x, k) :: L)) → Q b { s with heap := h1 }) :
    wpAny (model P w) A (setAddHashed a (.ref x) (kh P w k)) Q E s := by
  obtain ⟨ob, go, ge, gd⟩ := z.ob
  have hsl := rows_len z.rw_
  have rm := z.room
  unfold setAddHashed
  refine wpAny_holding ?_
  rw [show (100000 : Nat) = 99999 + 1 from rfl, setAddHashedIn_succ]
  refine wpAny_bind (wpAny_setState_of go gd z.fit ?_)
  dsimp only
  refine wp_if_neg (by simp [byScan, Value.scannable]) ?_
  try refine wpAny_bind (wpAny_pure ?_)
  refine wpAny_bind (z.find zx hu (fun hm => ?_) fun N hm hN hb => ?_)
  · dsimp only
    exact wpAny_pure (hQ false s.heap L es ep t (Heap.SameBut.refl a s.heap) z (fun _ => rfl) fun y => absurd hm y)
  · dsimp only
    have hfew := hfew hm
    refine wpAny_bind (wpAny_setState_of go gd z.fit ?_)
    dsimp only
    obtain ⟨q1, q2, q3, q4, q5, q6, q7, q8, q9⟩ := z.tab.put hN hb
    generalize t.put (way t.mask (kh P w k) N) = pt at q1 q3 q4 q5 q6 q7 q8 q9 ⊢
    obtain ⟨t0, p⟩ := pt
    dsimp only at q1 q3 q4 q5 q6 q7 q8 q9 ⊢
    subst q1
    generalize hpp : SetTable.below t.place (way t.mask (kh P w k) N) = p at q2 q3 ⊢
    have hin : (SetTable.insertAt es p (kh P w k, Value.ref x)).toList = rows P w (L.take p ++ (x, k) :: L.drop p) := by
      rw [SetTable.toList_insertAt, z.rw_]
      unfold rows
      rw [List.map_append, List.map_cons, List.map_take, List.map_drop]
    have hhs : (L.take p ++ (x, k) :: L.drop p).map (fun q => kh P w q.2) = (L.map fun q => kh P w q.2).take p ++ kh P w k :: (L.map fun q => kh P w q.2).drop p := by
      rw [List.map_append, List.map_cons, List.map_take, List.map_drop]
    rw [← hhs] at q3
    have pm := put_perm L p (x, k)
    have hlen : (L.take p ++ (x, k) :: L.drop p).length = L.length + 1 := pm.length_eq
    have hes := rows_len hin
    rw [hlen] at hes
    have nd1 : ((L.take p ++ (x, k) :: L.drop p).map (·.2)).Nodup := by
      refine (pm.map (·.2)).nodup_iff.mpr ?_
      rw [List.map_cons]
      exact List.nodup_cons.mpr ⟨hm, z.nd⟩
    generalize SetTable.insertAt es p (kh P w k, Value.ref x) = es1 at hin hes ⊢
    generalize L.take p ++ (x, k) :: L.drop p = L1 at pm hlen q3 nd1 hin
    have tail : ∀ t1 : SetTable, TabOk t1 (L1.map fun q => kh P w q.2) → t1.mask = t.mask → t1.led = t.led → t1.fill = (L.map fun q => kh P w q.2).length + 1 →
        wpAny (model P w) A (storing a es1 es.size t1) Q E s := by
      intro t1 c3 c4 c5 c9
      unfold storing
      refine wpAny_bind (wpAny_storeSet_of go gd ?_ (by rw [hes, sizeLine_eq]; omega))
      have sb : Heap.SameBut a s.heap (s.heap.update a (Obj.putSet es1 t1)) := Heap.SameBut.update ..
      have ho1 := store_at (es' := es1) (t' := t1) go gd
      generalize s.heap.update a (Obj.putSet es1 t1) = h1 at sb ho1 ⊢
      have tup1 : ∀ q ∈ L1, Tk P w h1 q.2 q.1 := fun q hq => by
        rcases List.mem_cons.mp (pm.mem_iff.mp hq) with e | hq
        · rw [e]; exact tk_but zx go gd sb
        · exact tk_but (z.tup q hq) go gd sb
      have ld1 : w.params.followText "set-order" = true ∨ t1.led = true := by rw [c5]; exact z.led
      by_cases hf : t1.tooFull = true
      · first
          | (refine wpAny_bind ?_; refine wp_if_pos (by simp [hf]) ?_)
          | (refine wp_if_pos (by simp [hf]) ?_; refine wpAny_bind ?_)
        have hfull : (L.length + 1) * 5 ≥ t1.mask * 3 := by
          have h := hf
          unfold SetTable.tooFull at h
          rw [decide_eq_true_eq, c9, List.length_map] at h
          exact h
        rw [hsl]
        have hsz1 : t1.place.size = es1.size := by
          have h := c3.sz
          rw [List.length_map, hlen] at h
          rw [h, hes]
        have two : (t.mask = 7 ∧ L.length = 4) ∨ (t.mask = 31 ∧ L.length = 18) := by
          rcases z.tab.mok with e | e | e
          · left; rw [c4, e] at hfull; rw [e] at rm; exact ⟨e, by omega⟩
          · right; rw [c4, e] at hfull; rw [e] at rm; exact ⟨e, by omega⟩
          · exfalso; rw [c4, e] at hfull; omega
        have go2 : ∀ M, SetTable.sizeAbove (SetTable.grown (L.length + 1)) - 1 = M → MaskOk M → SetTable.sizeAbove (SetTable.grown (L.length + 1)) ≤ 128 → (L.length + 1) * 5 < M * 3 →
            wpAny (model P w) A (setRelay a (SetTable.grown (L.length + 1))) (fun _ s' => wpAny (model P w) A (pure true) Q E s') E { s with heap := h1 } := fun M m1 m2 m3 m4 => by
          refine relay (s := { s with heap := h1 }) ho1 ⟨ge.1, ge.2.1, ge.2.2⟩ rfl hin hsz1 c3.dm (by rw [hes, c4]; rcases two with ⟨e, e2⟩ | ⟨e, e2⟩ <;> omega) nd1 tup1 ld1 (by rw [hlen]; exact hfew) m1 m2 m3 (by rw [hlen]; exact m4) ?_
          intro h2 L2 es2 ep2 t2 sb2 R2 pm2
          exact wpAny_pure (hQ true h2 L2 es2 ep2 t2 (sb.trans sb2) R2 (fun y => absurd y hm) fun _ => pm2.trans pm)
        rcases two with ⟨_, e2⟩ | ⟨_, e2⟩
        · exact go2 31 (by rw [e2, size_20]) (.inr (.inl rfl)) (by rw [e2, size_20]; decide) (by omega)
        · exact go2 127 (by rw [e2, size_76]) (.inr (.inr rfl)) (by rw [e2, size_76]; decide) (by omega)
      · first
          | refine wp_if_neg (by simp [hf]) ?_
          | (refine wpAny_bind ?_; refine wp_if_neg (by simp [hf]) ?_; refine wpAny_pure ?_)
        refine wpAny_pure (hQ true h1 L1 es1 (ep + 1) t1 sb ⟨⟨_, ho1, ⟨ge.1, ge.2.1, ge.2.2⟩, rfl⟩, hin, c3, nd1, tup1, ld1, ?_, by rw [hlen]; exact hfew⟩ (fun y => absurd y hm) fun _ => pm)
        have h := hf
        unfold SetTable.tooFull at h
        rw [decide_eq_true_eq, c9, List.length_map] at h
        rw [hlen]
        omega
    have both : ∀ c : Bool, wpAny (model P w) A (storing a es1 es.size (if c = true then t0 else { t0 with plain := false })) Q E s := fun c => by
      cases c
      · exact tail { t0 with plain := false } ⟨q3.ris, q3.dm, q3.sz, q3.mok, q3.bd, q3.reach⟩ q4 q5 q9
      · exact tail t0 q3 q4 q5 q9
    by_cases hpl : t0.plain = true
    · first
        | (refine wpAny_bind ?_; refine wp_if_pos hpl ?_; refine hashBy_tuple zx fun c => ?_; exact both c)
        | (refine wp_if_pos hpl (wpAny_bind (hashBy_tuple zx fun c => ?_)); exact both c)
    · first
        | (refine wpAny_bind ?_; refine wp_if_neg hpl ?_; refine wpAny_pure ?_; exact both true)
        | (refine wp_if_neg hpl ?_; refine wpAny_bind (wpAny_pure ?_); exact both true)
end
end SetK
namespace SetK
open PySem PySem.Spec PyProof.Rows L2

/-- what the set has of the first i items -/
structure Has (ks : List (Addr × List Key)) (i : Nat) (L : List (Addr × List Key)) : Prop where
  sub : ∀ q ∈ L, q ∈ ks
  all : ∀ q ∈ ks.take i, q.2 ∈ L.map (·.2)
theorem Has.zero (ks : List (Addr × List Key)) : Has ks 0 [] := ⟨fun _ z => (nomatch z), fun _ z => by simp at z⟩
theorem Has.same {ks L : List (Addr × List Key)} {i : Nat} {x : Addr × List Key} (g : Has ks i L) (h : ks[i]? = some x) (hm : x.2 ∈ L.map (·.2)) : Has ks (i + 1) L := by
  refine ⟨g.sub, fun q hq => ?_⟩
  rw [take_next h] at hq
  rcases List.mem_append.mp hq with y | y
  · exact g.all q y
  · rw [List.mem_singleton.mp y]
    exact hm
theorem Has.more {ks L L1 : List (Addr × List Key)} {i : Nat} {x : Addr × List Key} (g : Has ks i L) (h : ks[i]? = some x) (pm : L1.Perm (x :: L)) : Has ks (i + 1) L1 := by
  refine ⟨fun q hq => ?_, fun q hq => ?_⟩
  · rcases List.mem_cons.mp (pm.mem_iff.mp hq) with rfl | y
    · exact List.mem_of_getElem? h
    · exact g.sub q y
  · rw [(pm.map (·.2)).mem_iff, List.map_cons]
    rw [take_next h] at hq
    rcases List.mem_append.mp hq with y | y
    · exact List.mem_cons_of_mem _ (g.all q y)
    · rw [List.mem_singleton.mp y]
      exact List.mem_cons_self
/-- no more than so many unlike ones -/
def Few (ks : List (Addr × List Key)) : Prop := ∀ L : List (Addr × List Key), (L.map (·.2)).Nodup → (∀ q ∈ L, q ∈ ks) → L.length < 64

section
variable {P : Program} {w : World} {A : Around} {E : Value → Shared → Prop} {s : Shared}
theorem SetR.move {h h1 : Heap} {a : Addr} {L : List (Addr × List Key)} {es : Array (Int × Value)} {ep : Nat} {t : SetTable} (z : SetR P w h a L es ep t) (ha : ∀ o, h.get? a = some o → h1.get? a = some o) (ht : ∀ q ∈ L, Tk P w h1 q.2 q.1) : SetR P w h1 a L es ep t := by
  obtain ⟨o, ho, r⟩ := z.ob
  exact ⟨⟨o, ha o ho, r⟩, z.rw_, z.tab, z.nd, ht, z.led, z.room, z.few⟩
abbrev newSet (w : World) : Obj := { cls := .type "set", dict := none, data := .set #[] 0 (.fresh 0 0 (!w.params.followText "set-order")) }
theorem setR_new {h : Heap} {a : Addr} (ho : h.get? a = some (newSet w)) : SetR P w h a [] #[] 0 (.fresh 0 0 (!w.params.followText "set-order")) := by
  refine ⟨⟨_, ho, ⟨rfl, rfl, rfl⟩, rfl⟩, rfl, ⟨List.Pairwise.nil, rfl, rfl, .inl rfl, fun x y => (nomatch y), fun i h j y => by simp at y⟩, List.nodup_nil, fun q y => (nomatch y), ?_, by show 0 * 5 < 7 * 3; decide, by show 0 < 64; decide⟩
  show _ ∨ (!w.params.followText "set-order") = true
  cases w.params.followText "set-order"
  · exact .inr rfl
  · exact .inl rfl

theorem filling {I : Addr} {fp wr : List Addr} {G : Array GenState → Array GenState → Prop} {n : Nat} {Pv : Nat → Value → Prop} {St : Nat → Shared → Prop} {R : Result → Shared → Prop}
    (W : WalksS P w A.in1 I fp wr G n Pv St) (S : Addr) (nS : S ∉ fp) (ks : List (Addr × List Key)) (hn : n = ks.length) (cap : Few ks) (hval : ∀ i v, Pv i v → ∃ q, ks[i]? = some q ∧ v = .ref q.1)
    (h0 : Heap) (hk : ∀ q ∈ ks, Tk P w h0 q.2 q.1) (hS0 : h0.get? S = none) (hw0 : ∀ b ∈ wr, h0.get? b = none) (hu : A.in1.units < cLine) :
    ∀ (k i : Nat) (s : Shared), n - i = k → i ≤ n → St i s → (∀ b o, h0.get? b = some o → s.heap.get? b = some o) → (∃ L es ep t, SetR P w s.heap S L es ep t ∧ Has ks i L) →
      (∀ s1 L es ep t, Moved (S :: wr) G s s1 → SetR P w s1.heap S L es ep t → Has ks n L → (∀ b o, h0.get? b = some o → s1.heap.get? b = some o) → R (.ok (.ret .none)) s1) →
      codeAny (model P w) A (.builtin "set.update.loop" ⟨[.ref S, .ref I], []⟩) R s := by
  have nSw : S ∉ wr := fun h => nS (W.sub _ h)
  have up : ∀ b ∈ wr, b ∈ S :: wr := fun b hb => List.mem_cons_of_mem _ hb
  have still : ∀ {s s1 : Shared}, Moved wr G s s1 → (∀ b o, h0.get? b = some o → s.heap.get? b = some o) → ∀ b o, h0.get? b = some o → s1.heap.get? b = some o := fun hm kp b o e =>
    hm.heap b o (fun hb => by rw [hw0 b hb] at e; cases e) (kp b o e)
  intro k
  induction k with
  | zero =>
    intro i s ek hi hst kp ⟨L, es, ep, t, hS, g⟩ hR
    obtain rfl : i = n := by omega
    refine codeAny_builtin F.entry_set_update_loop ?_
    rw [Around.under_plainId F.plain_set_update_loop _]
    show wpAny _ A.in1 (pyNext (.ref I) >>= _) _ _ s
    refine wpAny_bind (W.done s _ _ hst fun s1 hm => ?_)
    show wpAny _ A.in1 (ret Value.none) _ _ s1
    have kp1 := still hm kp
    exact wpAny_pure (hR s1 L es ep t (hm.mono up) (hS.move (fun o e => hm.heap S o nSw e) fun q hq => tk_keep (hk q (g.sub q hq)) kp1) g kp1)
  | succ k ih =>
    intro i s ek hi hst kp ⟨L, es, ep, t, hS, g⟩ hR
    have hlt : i < n := by omega
    refine codeAny_builtin F.entry_set_update_loop ?_
    rw [Around.under_plainId F.plain_set_update_loop _]
    show wpAny _ A.in1 (pyNext (.ref I) >>= _) _ _ s
    refine wpAny_bind (W.item i s _ _ hlt hst fun v s1 hP hst1 hm => ?_)
    obtain ⟨p, hp, rfl⟩ := hval i v hP
    have kp1 := still hm kp
    have hS1 : SetR P w s1.heap S L es ep t := hS.move (fun o e => hm.heap S o nSw e) fun q hq => tk_keep (hk q (g.sub q hq)) kp1
    have hx : Tk P w s1.heap p.2 p.1 := tk_keep (hk p (List.mem_of_getElem? hp)) kp1
    show wpAny _ A.in1 (holding [Value.ref p.1] (setAdd S (.ref p.1)) >>= _) _ _ s1
    refine wpAny_bind (wpAny_holding ?_)
    unfold setAdd
    refine wpAny_holding ?_
    refine wpAny_bind (wpAny_pyHash_tuple hu hx ?_)
    refine SetR.add (s := { s1 with toks := s1.toks + (p.2.length + 1) }) hS1 hx hu (fun nm => ?_) fun b h1 L1 es1 ep1 t1 hsb hS2 c1 c2 => ?_
    · refine cap (p :: L) ?_ fun q hq => ?_
      · rw [List.map_cons]
        exact List.nodup_cons.mpr ⟨nm, hS.nd⟩
      · rcases List.mem_cons.mp hq with rfl | y
        · exact List.mem_of_getElem? hp
        · exact g.sub q y
    have g1 : Has ks (i + 1) L1 := by
      rcases Classical.em (p.2 ∈ L.map (·.2)) with c | c
      · rw [c1 c]; exact g.same hp c
      · exact g.more hp (c2 c)
    have kp2 : ∀ b o, h0.get? b = some o → h1.get? b = some o := fun b o e => (hsb.2 b (fun y => by rw [y, hS0] at e; cases e)).trans (kp1 b o e)
    refine wpAny_pure ⟨plainId_quiet F.plain_set_update_loop _, ih (i + 1) _ (by omega) hlt (W.frame _ s1 _ _ hst1 (Nat.le_add_right _ _) fun b hb o e => ?_) kp2 ⟨L1, es1, ep1, t1, hS2, g1⟩ fun s2 L2 es2 ep2 t2 m2 hS2 g2 kp2 => ?_⟩
    · rw [hsb.2 b (fun y : b = S => nS (by rw [← y]; exact hb))]; exact e
    · refine hR s2 L2 es2 ep2 t2 (Moved.trans W.gtrans ((hm.mono up).then_heap (Nat.le_add_right _ _) fun b o hb e => ?_) m2) hS2 g2 kp2
      rw [hsb.2 b (fun y : b = S => hb (by rw [y]; exact List.mem_cons_self))]; exact e

set_option maxHeartbeats 3200000 in
theorem call_set {l : Addr} {items : Array Value} (ks : List (Addr × List Key)) {Q : Value → Shared → Prop} (hh : A.handled = none) (hl : s.heap.IsList l items) (hit : items.toList = ks.map fun q => Value.ref q.1)
    (hk : ∀ q ∈ ks, Tk P w s.heap q.2 q.1) (cap : Few ks) (hu : A.units + 3 < cLine)
    (h : ∀ (h1 : Heap) (tk : Nat) L es ep t, SetR P w h1 s.heap.objs.size L es ep t → Has ks ks.length L → (∀ b o, s.heap.get? b = some o → h1.get? b = some o) → Q (.ref s.heap.objs.size) { s with heap := h1, toks := tk }) :
    wpAny (model P w) A (call (.type "set") [.ref l]) Q E s := by
  have hisz : items.size = ks.length := by
    have q := congrArg List.length hit
    rw [Array.length_toList, List.length_map] at q
    exact q
  obtain ⟨c, tl, hmro⟩ := F.called_set.mro
  have hmade := F.called_set.made
  have hsub := F.called_set.sub
  refine wpAny_call (codeAny_of_tree ?_)
  show wpAny _ _ (callAny (.type "set") _) _ _ _
  refine wpAny_pure ⟨Code.quiet_builtin _ (by decide +kernel), codeAny_builtin F.entry_type_call ?_⟩
  rw [Around.under_plain (weight_type_call_type "set" [.ref l] []) rfl]
  have k1 := F.called_set.notType
  have k2 := F.called_set.canCreate
  have k3 := F.typeCall_set_1 (.ref l)
  repeat (any_goals (first | assumption | wp_step))
  refine codeAny_mono (code_set_led1 (.ref l) (E := E) (Q₁ := fun obj s1 => obj = .ref s.heap.objs.size ∧ s1 = { s with heap := s.heap.push (newSet w) }) ⟨rfl, rfl⟩) fun r s1 hr => ?_
  cases r with
  | error e => exact hr
  | ok fl =>
    cases fl with
    | ret obj =>
      obtain ⟨rfl, rfl⟩ := hr
      have hS : (s.heap.push (newSet w)).get? s.heap.objs.size = some (newSet w) := Heap.get?_push_size _ rfl
      have hT : Shared.TypeIs { s with heap := s.heap.push (newSet w) } (.ref s.heap.objs.size) "set" := ⟨_, hS, rfl⟩
      have k4 := F.called_set.init.lookup
      have k5 := F.called_set.init.bind (.ref s.heap.objs.size)
      repeat (any_goals (first | assumption | wp_step))
      refine codeAny_mono (codeAny_call_builtin (R := wants (fun r s2 => r = .none ∧ ∃ h1 tk L es ep t, s2 = { s with heap := h1, toks := tk } ∧ SetR P w h1 s.heap.objs.size L es ep t ∧ Has ks ks.length L ∧
          (∀ b o, s.heap.get? b = some o → h1.get? b = some o)) E) F.called_set.init.plain F.entry_set_init (check_set_init_1 hT ?_)) fun r2 s2 hr2 => ?_
      · obtain ⟨ol, hol, hcl, nl, hdl⟩ := hl
        obtain ⟨ocls, odict, odata, oslots⟩ := ol
        simp only at hcl hdl
        subst hcl; subst hdl
        have hol1 : (s.heap.push (newSet w)).get? l = some { cls := .type "list", dict := odict, data := .seq items nl, slots := oslots } := Heap.get?_push_of_some _ hol
        have k6 := F.sub_list_set
        have k7 := F.sub_list_frozenset
        have k8 : (Value.type "list" == Value.type "dict") = false := by decide
        have hl1 : (s.heap.push (newSet w)).IsList l items := ⟨_, hol1, rfl, nl, rfl⟩
        unfold Builtin.«set.__init__» noKeywords Builtin.Frozenset.updateFrom
        generalize hPI : pyIter = PI
        wp_walk
        subst hPI
        refine wpAny_pyIter_list hl1 ?_
        refine wpAny_bind (wpAny_runValue ?_)
        have hlS : l < s.heap.objs.size := Heap.lt_size hol
        have hh3 : A.in1.in1.in1.handled = none := by simp [hh]
        have hneI : l ≠ (s.heap.push (newSet w)).objs.size := by
          rw [Heap.size_push]; exact Nat.ne_of_lt (Nat.lt_succ_of_lt hlS)
        have nS : s.heap.objs.size ∉ [(s.heap.push (newSet w)).objs.size, l] := by
          rw [Heap.size_push]; simp only [List.mem_cons, List.mem_singleton, List.not_mem_nil, or_false, not_or]
          exact ⟨Nat.ne_of_lt (Nat.lt_succ_self _), Nat.ne_of_gt hlS⟩
        have hval : ∀ (i : Nat) (v : Value), items[i]? = some v → ∃ q, ks[i]? = some q ∧ v = .ref q.1 := fun i v hv => by
          have q : items.toList[i]? = some v := by rw [Array.getElem?_toList]; exact hv
          rw [hit, List.getElem?_map] at q
          cases hq : ks[i]? with
          | none => rw [hq] at q; cases q
          | some p =>
            rw [hq] at q
            exact ⟨p, rfl, (Option.some.inj q).symm⟩
        have none_of : ∀ b, s.heap.objs.size ≤ b → s.heap.get? b = none := fun b hb => by
          cases q : s.heap.get? b with
          | none => rfl
          | some o => exact absurd (Nat.lt_of_lt_of_le (Heap.lt_size q) hb) (Nat.lt_irrefl _)
        refine filling ((Walks.list hh3 _ l hneI items).toS) s.heap.objs.size
          nS ks hisz cap hval s.heap hk (none_of _ (Nat.le_refl _)) (fun b hb => none_of b (by
            rw [List.mem_singleton.mp hb, Heap.size_push]
            exact Nat.le_succ _)) hu (items.size - 0) 0 _ (by omega) (Nat.zero_le _)
          ⟨⟨_, Heap.get?_push_size _ rfl, rfl, rfl⟩, (hl1.push _)⟩ (fun b o e => Heap.get?_push_of_some _ (Heap.get?_push_of_some _ e)) ?hS0 ?hR
        case hS0 =>
          have hget : ((s.heap.push (newSet w)).push { cls := .type "list_iterator", data := .fields #[.ref l, .int 0 0] }).get? s.heap.objs.size = some (newSet w) := Heap.get?_push_of_some _ hS
          exact ⟨[], #[], 0, _, setR_new hget, Has.zero ks⟩
        case hR =>
          intro s1 L es ep t hm z g kp
          obtain ⟨h1, g2, d1, tk1, os1⟩ := s1
          obtain rfl : g2 = s.gens := hm.gens
          obtain rfl : d1 = s.drawn := hm.drawn
          obtain rfl : os1 = s.os := hm.os
          show wpAny _ _ _ _ _ _
          refine wpAny_pure ?_
          show wpAny _ _ (ret Value.none) _ _ _
          rw [hisz] at g
          exact wpAny_pure ⟨rfl, h1, tk1, L, es, ep, t, rfl, z, g, kp⟩
      · cases r2 with
        | error e => exact hr2
        | ok fl2 =>
          cases fl2 with
          | ret r =>
            obtain ⟨rfl, h1, tk, L, es, ep, t, rfl, z, g, kp⟩ := hr2
            repeat (any_goals (first | assumption | wp_step))
            exact h _ _ _ _ _ _ z g kp
          | _ => exact hr2.elim
    | _ => exact hr.elim
end
end SetK
namespace SetK
open PySem PySem.Spec PyProof.Rows L2

theorem perm_back {α β : Type} (f : α → β) {l m : List β} (pm : l.Perm m) : ∀ L : List α, m = L.map f → ∃ L1 : List α, L1.Perm L ∧ l = L1.map f := by
  induction pm with
  | nil =>
    intro L e
    cases L with
    | nil => exact ⟨[], .nil, rfl⟩
    | cons _ _ => cases e
  | cons x _ ih =>
    intro L e
    cases L with
    | nil => cases e
    | cons y L =>
      rw [List.map_cons] at e
      injection e with e1 e2
      obtain ⟨L1, p1, e3⟩ := ih L e2
      exact ⟨y :: L1, p1.cons y, by rw [List.map_cons, e1, e3]⟩
  | swap x y l =>
    intro L e
    match L, e with
    | a :: b :: L, e =>
      rw [List.map_cons, List.map_cons] at e
      injection e with e1 e2
      injection e2 with e2 e3
      exact ⟨b :: a :: L, .swap a b L, by rw [List.map_cons, List.map_cons, e1, e2, e3]⟩
  | trans _ _ ih1 ih2 =>
    intro L e
    obtain ⟨L2, p2, e2⟩ := ih2 L e
    obtain ⟨L1, p1, e1⟩ := ih1 L2 e2
    exact ⟨L1, p1.trans p2, e1⟩

/-- a tuple of texts as data -/
abbrev encT (x : List Str) : PyData := .tuple (x.map .str)
abbrev leT (a b : List Str) : Bool := PySem.W.dataLe false encT a b
theorem leT_total : PySem.W.TotalLe leT := PySem.W.sortLe_total _ _ _
theorem toks_inj : ∀ x y : List Str, PySem.W.keyToksAll (x.map .str) = PySem.W.keyToksAll (y.map .str) → x = y
  | [], [], _ => rfl
  | [], _ :: _, e => by simp [PySem.W.keyToksAll] at e
  | _ :: _, [], e => by simp [PySem.W.keyToksAll] at e
  | a :: x, b :: y, e => by
    simp only [List.map_cons, PySem.W.keyToksAll, PySem.W.keyToks, List.cons_append, List.nil_append] at e
    injection e with _ e
    injection e with e1 e2
    injection e1 with e1
    rw [PySem.W.str_of_cps e1, toks_inj x y e2]
theorem leT_anti {a b : List Str} (h1 : leT a b = true) (h2 : leT b a = true) : a = b := by
  have q1 : PyProof.Rows.lexLt PyProof.Rows.itemOrd (PySem.W.keyToks (encT b)) (PySem.W.keyToks (encT a)) = false := by simpa [leT, PySem.W.dataLe, PySem.W.sortLe] using h1
  have q2 : PyProof.Rows.lexLt PyProof.Rows.itemOrd (PySem.W.keyToks (encT a)) (PySem.W.keyToks (encT b)) = false := by simpa [leT, PySem.W.dataLe, PySem.W.sortLe] using h2
  exact toks_inj a b (PyProof.Rows.lex_total _ _ q2 q1)
/-- sorted and each once: one list alone -/
theorem sorted_one : ∀ {m n : List (List Str)}, m.Pairwise (fun a b => leT a b = true) → n.Pairwise (fun a b => leT a b = true) → m.Nodup → n.Nodup → (∀ x, x ∈ m ↔ x ∈ n) → m = n
  | [], [], _, _, _, _, _ => rfl
  | [], y :: n, _, _, _, _, h => absurd ((h y).mpr List.mem_cons_self) (by simp)
  | x :: m, [], _, _, _, _, h => absurd ((h x).mp List.mem_cons_self) (by simp)
  | x :: m, y :: n, h1, h2, d1, d2, h => by
    obtain ⟨a1, b1⟩ := List.pairwise_cons.mp h1
    obtain ⟨a2, b2⟩ := List.pairwise_cons.mp h2
    obtain ⟨c1, e1⟩ := List.nodup_cons.mp d1
    obtain ⟨c2, e2⟩ := List.nodup_cons.mp d2
    have xy : x = y := by
      rcases List.mem_cons.mp ((h x).mp List.mem_cons_self) with e | hx
      · exact e
      · rcases List.mem_cons.mp ((h y).mpr List.mem_cons_self) with e | hy
        · exact e.symm
        · exact leT_anti (a1 y hy) (a2 x hx)
    subst xy
    rw [sorted_one b1 b2 e1 e2 fun z => ?_]
    constructor
    · intro hz
      rcases List.mem_cons.mp ((h z).mp (List.mem_cons_of_mem _ hz)) with e | q
      · subst e; exact absurd hz c1
      · exact q
    · intro hz
      rcases List.mem_cons.mp ((h z).mpr (List.mem_cons_of_mem _ hz)) with e | q
      · subst e; exact absurd hz c2
      · exact q

/-- each once -/
def once : List (List Str) → List (List Str)
  | [] => []
  | x :: r => if x ∈ once r then once r else x :: once r
theorem mem_once : ∀ (l : List (List Str)) (x : List Str), x ∈ once l ↔ x ∈ l
  | [], x => Iff.rfl
  | y :: r, x => by
    unfold once
    split
    · rename_i hy
      rw [mem_once r x, List.mem_cons]
      constructor
      · exact .inr
      · rintro (rfl | h)
        · exact (mem_once r x).mp hy
        · exact h
    · rw [List.mem_cons, List.mem_cons, mem_once r x]
theorem nodup_once : ∀ l : List (List Str), (once l).Nodup
  | [] => List.nodup_nil
  | y :: r => by
    unfold once
    split
    · exact nodup_once r
    · rename_i h
      exact List.nodup_cons.mpr ⟨h, nodup_once r⟩
/-- what sorted(set(l)) has -/
def sset (l : List (List Str)) : List (List Str) := (once l).mergeSort leT
theorem sset_is {l m : List (List Str)} (h1 : m.Pairwise (fun a b => leT a b = true)) (d : m.Nodup) (h : ∀ x, x ∈ m ↔ x ∈ l) : m = sset l := by
  refine sorted_one h1 (PySem.W.sort_pairwise leT_total _) d ((List.mergeSort_perm _ _).nodup_iff.mpr (nodup_once l)) fun x => ?_
  unfold sset
  rw [(List.mergeSort_perm _ _).mem_iff, mem_once]
  exact h x
theorem mem_sset {l : List (List Str)} {x : List Str} : x ∈ sset l ↔ x ∈ l := by
  unfold sset
  rw [(List.mergeSort_perm _ _).mem_iff, mem_once]
theorem nodup_sset (l : List (List Str)) : (sset l).Nodup := (List.mergeSort_perm _ _).nodup_iff.mpr (nodup_once l)
theorem sset_eq {l m : List (List Str)} (h : ∀ x, x ∈ l ↔ x ∈ m) : sset l = sset m := by
  refine sset_is (PySem.W.sort_pairwise leT_total _) ((List.mergeSort_perm _ _).nodup_iff.mpr (nodup_once l)) fun x => ?_
  show x ∈ sset l ↔ x ∈ m
  rw [mem_sset]
  exact h x

section
variable {P : Program} {w : World} {A : Around} {E : Value → Shared → Prop} {s : Shared}
abbrev asK (q : Addr × List Str) : Addr × List Key := (q.1, q.2.map Sum.inr)
theorem inr_inj : ∀ {x y : List Str}, x.map (Sum.inr : Str → Key) = y.map Sum.inr → x = y
  | [], [], _ => rfl
  | [], _ :: _, e => by cases e
  | _ :: _, [], e => by cases e
  | a :: x, b :: y, e => by
    rw [List.map_cons, List.map_cons] at e
    injection e with e1 e2
    injection e1 with e1
    rw [e1, inr_inj e2]
theorem reads_strs {h : Heap} : ∀ {x : List Str} {vs : List Value}, ItemsAre (mixKind P w) (x.map Sum.inr) vs → ReadsAll h vs (x.map .str) []
  | [], _, .nil => .nil
  | a :: x, _, .cons h1 h2 => by
    rcases keyIs_shape (show keyIs (Sum.inr a) _ = true from h1) with ⟨i, t, e, _⟩ | ⟨y, t, e, rfl⟩
    · exact nomatch e
    · injection e with e
      subst e
      exact .cons (.str _ _) (reads_strs h2)
theorem reads_tk {h : Heap} {x : List Str} {b : Addr} (z : Tk P w h (x.map Sum.inr) b) : Reads h (.ref b) (encT x) [] := by
  obtain ⟨o, its, n, ho, hc, hd, hi⟩ := z
  exact .tuple ho hc hd (reads_strs hi)
theorem alike_strs : ∀ x y : List Str, PySem.W.alikeAll (x.map .str) (y.map .str) = true
  | [], _ => by simp [PySem.W.alikeAll]
  | _ :: _, [] => by simp [PySem.W.alikeAll]
  | a :: x, b :: y => by
    simp only [List.map_cons, PySem.W.alikeAll, PySem.W.alike, Bool.true_and]
    exact alike_strs x y
theorem depth_strs : ∀ x : List Str, PyData.depthAll (x.map .str) ≤ 1
  | [] => by simp [PyData.depthAll]
  | a :: x => by
    have := depth_strs x
    simp only [List.map_cons, PyData.depthAll, PyData.depth]
    omega

theorem sorted_set {a : Addr} {L : List (Addr × List Str)} {es : Array (Int × Value)} {ep : Nat} {t : SetTable} {Q : Value → Shared → Prop} (z : SetR P w s.heap a (L.map asK) es ep t) (hh : A.handled = none) (hu : A.units + 100 < cLine)
    (ne : ∀ q ∈ L, q.2 ≠ [])
    (hQ : ∀ s1 p (out : Array Value) (c : Nat) (M : List (Addr × List Str)), (∀ b o, s.heap.get? b = some o → s1.heap.get? b = some o) → s1.gens = s.gens → s1.os = s.os → s.heap.objs.size ≤ p →
      s1.heap.get? p = some (seqObj "list" out c) → out.toList = M.map (fun q => Value.ref q.1) → M.Perm L → M.map (·.2) = sset (L.map (·.2)) → Q (.ref p) s1) :
    wpAny (model P w) A (call (.builtin "sorted") [.ref a]) Q E s := by
  obtain ⟨o, ho, hex, hd⟩ := z.ob
  have hsz := rows_len z.rw_
  rw [List.length_map] at hsz
  have few := z.few
  rw [List.length_map] at few
  refine Calls.call_function_entry kind_sorted plain_sorted entry_sorted (args_sorted1 _) ?_
  unfold Builtin.«sorted»
  refine wpAny_bind (m := checkCount "sorted" 1 1 _) (wpAny_pure ?_)
  refine wpAny_bind (collect_set (A := A.in1) hh ⟨o, ho, hex.1, hd⟩ z.fit (by unfold scanBound; omega) z.tab.ris z.led fun s1 vs k1 hz g1 o1 pm => ?_)
  have hes : es.toList.map (·.2) = L.map fun q => Value.ref q.1 := by
    rw [z.rw_, rows, List.map_map, List.map_map]
    rfl
  rw [hes] at pm
  obtain ⟨L1, p1, ev⟩ := perm_back (fun q : Addr × List Str => Value.ref q.1) pm L rfl
  have hvl : vs.length = L1.length := by rw [ev, List.length_map]
  have hl1 : L1.length = L.length := p1.length_eq
  refine wpAny_bind (wpAny_newList ?_ (by rw [hvl, hl1, sizeLine_eq]; omega))
  have hoL : (s1.heap.push (seqObj "list" vs.toArray 0)).get? s1.heap.objs.size = some (seqObj "list" vs.toArray 0) := Heap.get?_push_size _ rfl
  have rd : ∀ q ∈ L1, Reads (s1.heap.push (seqObj "list" vs.toArray 0)) (.ref q.1) (encT q.2) [] := fun q hq =>
    reads_tk (P := P) (w := w) (tk_keep (z.tup (asK q) (List.mem_map.mpr ⟨q, p1.mem_iff.mp hq, rfl⟩)) fun b u e => Heap.get?_push_of_some _ (k1 b u e))
  have each : ∀ {Rl : Value → Addr × List Str → Prop} (l : List (Addr × List Str)), (∀ q ∈ l, Rl (.ref q.1) q) → PySem.W.EachIs Rl (l.map fun q => Value.ref q.1) l := by
    intro Rl l
    induction l with
    | nil => exact fun _ => .nil
    | cons q l ih => exact fun h => .cons (h q List.mem_cons_self) (ih fun r hr => h r (List.mem_cons_of_mem _ hr))
  have back : ∀ (out : List Value) (l : List (Addr × List Str)), PySem.W.EachIs (fun v q => v = Value.ref q.1) out l → out = l.map fun q => Value.ref q.1 := by
    intro out l h
    induction h with
    | nil => rfl
    | cons e _ ih => rw [e, ih, List.map_cons]
  refine wpAny_bind (wpAny_holding (PySem.W.list_sort_data (s := { s1 with heap := s1.heap.push (seqObj "list" vs.toArray 0) }) (R := fun v q => v = Value.ref q.1) (enc := fun q : Addr × List Str => encT q.2) (bs := L1) hoL (by rw [ev]; exact each L1 fun q _ => rfl)
    (by rw [ev]; exact each L1 fun q hq => ⟨[], by rw [ev] at rd; exact rd q hq, by simp⟩) ?al ?so (by rw [hl1, sizeLine_eq]; omega) ?un fun out hlen ho1 => ?_))
  case al => exact PySem.W.AllAlike.of fun b b' => alike_strs b.2 b'.2
  case so =>
    refine .inl fun d hd => ?_
    obtain ⟨q, hq, rfl⟩ := List.mem_map.mp hd
    have n := ne q (p1.mem_iff.mp hq)
    cases e : q.2 with
    | nil => exact absurd e n
    | cons x r => exact ⟨.str x, r.map .str, rfl⟩
  case un =>
    intro q _
    have d := depth_strs q.2
    have e : (encT q.2).depth ≤ 2 := by
      simp only [PyData.depth]
      omega
    have hu1 : A.in1.units + 1 ≤ A.units + 2 := by
      simp [Around.in1, Around.units]
      try omega
    omega
  have eo := back out _ ho1
  obtain ⟨c, hc⟩ := sortedHeap_at (vs := vs) (out := out.toArray) hoL
  have pM : (L1.mergeSort (PySem.W.dataLe false fun q : Addr × List Str => encT q.2)).Perm L := (List.mergeSort_perm _ _).trans p1
  have srt : (L1.mergeSort (PySem.W.dataLe false fun q : Addr × List Str => encT q.2)).map (·.2) = sset (L.map (·.2)) := by
    refine sset_is ?_ ?_ fun x => ?_
    · rw [List.pairwise_map]
      exact (PySem.W.sort_pairwise (PySem.W.sortLe_total _ _ _) L1).imp fun h => h
    · refine (pM.map (·.2)).nodup_iff.mpr ?_
      have nd := z.nd
      rw [List.map_map] at nd
      refine nodup_of_map (f := fun x : List Str => x.map (Sum.inr : Str → Key)) ?_
      rw [List.map_map]
      exact nd
    · exact (pM.map (·.2)).mem_iff
  refine wpAny_pure ⟨_, rfl, hQ _ s1.heap.objs.size out.toArray c _ (fun b u e => ?_) g1 o1 hz hc (by simpa using eo) pM srt⟩
  have q := k1 b u e
  have hlt := Heap.lt_size q
  show (sortedHeap (s1.heap.push (seqObj "list" vs.toArray 0)) s1.heap.objs.size vs out.toArray).get? b = some u
  rw [sortedHeap_old (Nat.ne_of_lt hlt) (by rw [size_push']; exact Nat.lt_succ_of_lt hlt)]
  exact Heap.get?_push_of_some _ q
end
end SetK
namespace SetK
open PySem PySem.Spec PyProof.Rows L2
/-- the set's own object, the tuples left out -/
def SetE (P : Program) (w : World) (a : Addr) (L : List (Addr × List Str)) (h : Heap) : Prop := ∃ (es : Array (Int × Value)) (ep : Nat) (t : SetTable), (∃ o, h.get? a = some o ∧ o.ExactSet ∧ o.data = .set es ep t) ∧ es.toList = rows P w (L.map asK) ∧
  TabOk t ((L.map asK).map fun q => kh P w q.2) ∧ ((L.map asK).map (·.2)).Nodup ∧ (w.params.followText "set-order" = true ∨ t.led = true) ∧ (L.map asK).length * 5 < t.mask * 3 ∧ (L.map asK).length < 64
def SetH (P : Program) (w : World) (a : Addr) (L : List (Addr × List Str)) : HO := .ext (SetE P w a L)
section
variable {P : Program} {w : World}
theorem SetR.thin {h : Heap} {a : Addr} {L : List (Addr × List Str)} {es : Array (Int × Value)} {ep : Nat} {t : SetTable} (z : SetR P w h a (L.map asK) es ep t) : SetE P w a L h :=
  ⟨es, ep, t, z.ob, z.rw_, z.tab, z.nd, z.led, z.room, z.few⟩
theorem SetE.full {h : Heap} {a : Addr} {L : List (Addr × List Str)} (z : SetE P w a L h) (ht : ∀ q ∈ L, Tk P w h (q.2.map Sum.inr) q.1) : ∃ es ep t, SetR P w h a (L.map asK) es ep t := by
  obtain ⟨es, ep, t, h1, h2, h3, h4, h5, h6, h7⟩ := z
  refine ⟨es, ep, t, h1, h2, h3, h4, fun q hq => ?_, h5, h6, h7⟩
  obtain ⟨r, hr, rfl⟩ := List.mem_map.mp hq
  exact ht r hr
theorem setH_ok {H : Hp} {h : Heap} {a : Addr} {L : List (Addr × List Str)} (z : SetE P w a L h) : ObjOk P w H h a (SetH P w a L) := by
  obtain ⟨es, ep, t, ⟨o, ho, r⟩, q⟩ := id z
  refine ⟨z, ⟨o, ho⟩, fun h1 h2 p k => ?_⟩
  obtain ⟨es1, ep1, t1, ⟨o1, ho1, r1⟩, q1⟩ := p
  exact ⟨es1, ep1, t1, ⟨o1, k o1 ho1, r1⟩, q1⟩
theorem items_strs : ∀ {x : List Str} {us : List Value}, Vals (x.map V.str) us → ItemsAre (mixKind P w) (x.map Sum.inr) us
  | [], _, .nil => .nil
  | n :: x, _, .cons r t => by
    obtain ⟨tk, rfl⟩ := r
    exact .cons (mixKind_str P w n tk) (items_strs t)
theorem refs_back : ∀ {ks : List (Addr × List Str)} {us : List Value}, Vals (ks.map fun q => V.ref q.1) us → us = ks.map fun q => Value.ref q.1
  | [], _, .nil => rfl
  | _ :: ks, _, .cons r t => by
    cases r
    rw [refs_back t]
    rfl
theorem refs_vals : ∀ ks : List (Addr × List Str), Vals (ks.map fun q => V.ref q.1) (ks.map fun q => Value.ref q.1)
  | [] => .nil
  | _ :: ks => .cons rfl (refs_vals ks)
end
section
variable {X : Cx}
theorem inv_tk {pins : List (Addr × Obj)} {σ : L2.St} {H : Hp} {s : Shared} {b : Addr} {x : List Str} (I : L2.Inv X pins σ H s) (h : SqT X.K H b (x.map V.str)) : Tk X.prog X.w s.heap (x.map Sum.inr) b := by
  obtain ⟨its, r, ⟨o, ho, hc, n, hd⟩, _⟩ := I.tuple h
  exact ⟨o, its.toArray, n, ho, hc, hd, by simpa using items_strs r⟩
/-- not so many unlike ones -/
def FewS (ks : List (List Str)) : Prop := ∀ l : List (List Str), l.Nodup → (∀ x ∈ l, x ∈ ks) → l.length < 64
/-- set(xs), xs a list of tuples of texts -/
def rSetS (K : PySem.W.Frag) (P : Program) (w : World) : List V → Hp → VK → Prop := fun xs H Q => ∃ (l : Addr) (ks : List (Addr × List Str)), xs = [V.ref l] ∧ SqL K H l (ks.map fun q => V.ref q.1) ∧ (∀ q ∈ ks, SqT K H q.1 (q.2.map V.str)) ∧ FewS (ks.map (·.2)) ∧
  ∀ a L, H a = none → (∀ q ∈ L, q ∈ ks) → (∀ q ∈ ks, q.2 ∈ L.map (·.2)) → Q (.ref a) (upd H a (SetH P w a L))
theorem few_of {ks : List (Addr × List Str)} (f : FewS (ks.map (·.2))) : Few (ks.map asK) := fun L nd hs => by
  obtain ⟨M, e⟩ : ∃ M : List (Addr × List Str), L = M.map asK ∧ ∀ q ∈ M, q ∈ ks := by
    clear nd
    induction L with
    | nil => exact ⟨[], rfl, fun _ z => nomatch z⟩
    | cons q L ih =>
      obtain ⟨M, e, hM⟩ := ih fun r hr => hs r (List.mem_cons_of_mem _ hr)
      obtain ⟨m, hm, em⟩ := List.mem_map.mp (hs q List.mem_cons_self)
      refine ⟨m :: M, by rw [List.map_cons, em, e], fun r hr => ?_⟩
      rcases List.mem_cons.mp hr with rfl | y
      · exact hm
      · exact hM r y
  obtain ⟨rfl, hM⟩ := e
  have h1 := f (M.map (·.2)) (by
    refine nodup_of_map (f := fun x : List Str => x.map (Sum.inr : Str → Key)) ?_
    rw [List.map_map]
    rw [List.map_map] at nd
    exact nd) fun x hx => by
      obtain ⟨q, hq, rfl⟩ := List.mem_map.mp hx
      exact List.mem_map.mpr ⟨q, hM q hq, rfl⟩
  rw [List.length_map] at h1 ⊢
  exact h1
theorem cr_setS (hc : X.calm = true) (hu : X.A.units + 100 < cLine) : CallR X (.type "set") (rSetS X.K X.prog X.w) := by
  intro pins s σ H xs us Q I r h
  obtain ⟨l, ks, rfl, hl, hk, hf, q⟩ := h
  rw [Vals.ref1 r]
  obtain ⟨its, rv, pl, _⟩ := I.list hl
  have hn : H s.heap.objs.size = none := I.hok.fresh (Nat.le_refl _)
  refine call_set (P := X.prog) (w := X.w) (ks.map asK) (I.ok.hd hc) pl.isList (by rw [List.map_map]; exact refs_back rv) (fun p hp => ?_) (few_of hf) (by omega) fun h1 tk L es ep t z g k => ?_
  · obtain ⟨m, hm, rfl⟩ := List.mem_map.mp hp
    exact inv_tk I (hk m hm)
  · obtain ⟨M, e, hM⟩ : ∃ M : List (Addr × List Str), L = M.map asK ∧ ∀ q ∈ M, q ∈ ks := by
      have gs := g.sub
      clear g z
      induction L with
      | nil => exact ⟨[], rfl, fun _ z => nomatch z⟩
      | cons q L ih =>
        obtain ⟨M, e, hM⟩ := ih fun r hr => gs r (List.mem_cons_of_mem _ hr)
        obtain ⟨m, hm, em⟩ := List.mem_map.mp (gs q List.mem_cons_self)
        refine ⟨m :: M, by rw [List.map_cons, em, e], fun r hr => ?_⟩
        rcases List.mem_cons.mp hr with rfl | y
        · exact hm
        · exact hM r y
    subst e
    refine ⟨.ref s.heap.objs.size, upd H s.heap.objs.size (SetH X.prog X.w s.heap.objs.size M), I.laid (t' := tk) k (Nat.le_refl _) (setH_ok z.thin), rfl, q _ M hn hM fun p hp => ?_⟩
    have y := g.all (asK p) (by rw [List.take_length]; exact List.mem_map.mpr ⟨p, hp, rfl⟩)
    rw [List.map_map] at y
    obtain ⟨m, hm, e⟩ := List.mem_map.mp y
    exact List.mem_map.mpr ⟨m, hm, inr_inj e⟩
/-- sorted(s), s such a set -/
def rSortedS (K : PySem.W.Frag) (P : Program) (w : World) : List V → Hp → VK → Prop := fun vs H Q => ∃ (a : Addr) (L : List (Addr × List Str)), vs = [V.ref a] ∧ H a = some (SetH P w a L) ∧ (∀ q ∈ L, SqT K H q.1 (q.2.map V.str)) ∧ (∀ q ∈ L, q.2 ≠ []) ∧
  ∀ (M : List (Addr × List Str)) (p : Addr), M.Perm L → M.map (·.2) = sset (L.map (·.2)) → H p = none → Q (.ref p) (upd H p (.lst (M.map fun q => V.ref q.1)))
theorem cr_sortedS (hc : X.calm = true) (hu : X.A.units + 100 < cLine) : CallR X (.builtin "sorted") (rSortedS X.K X.prog X.w) := by
  intro pins s σ H vs us Q I r h
  obtain ⟨a, L, rfl, ha, hk, ne, q⟩ := h
  have z0 : SetE X.prog X.w a L s.heap := (I.hok a _ ha).1
  obtain ⟨es, ep, t, z⟩ := z0.full fun p hp => inv_tk I (hk p hp)
  rw [Vals.ref1 r]
  refine sorted_set z (I.ok.hd hc) hu ne fun s1 p out c M k g o hp hg hout pm em => ?_
  have few := z.few
  rw [List.length_map] at few
  have hlen : (M.map fun q => V.ref q.1).length ≤ sizeLine := by rw [List.length_map, pm.length_eq, sizeLine_eq]; omega
  have hn : H p = none := I.hok.fresh hp
  have hv : Vals (M.map fun q => V.ref q.1) out.toList := by rw [hout]; exact refs_vals M
  have J : Inv X pins σ (upd H p (.lst (M.map fun q => V.ref q.1))) { s with heap := s1.heap, gens := s1.gens, drawn := s1.drawn, toks := s1.toks } :=
    I.call (ch := []) (Un.laid k hp hn) (I.hok.laid k hp ⟨hlen, out.toList, c, hv, hg⟩) (by rw [g]; exact I.bare) (fun _ y => nomatch y)
  have e : s1 = { s with heap := s1.heap, gens := s1.gens, drawn := s1.drawn, toks := s1.toks } := by
    cases s1
    cases s
    cases o
    rfl
  rw [e]
  exact ⟨.ref p, _, J, rfl, q M p pm em hn⟩
end
end SetK
/-! data that stand still (F), what may change (M), evaluation to data (ED). -/
namespace Ly
open PySem L2

/-- from (F, H) on: F grows, H is kept but at M, what is new in F is new in H -/
structure Gr (M : List Addr) (F H F1 H1 : Hp) : Prop where
  ff : Same F F1
  fh : Same F1 H1
  hh : ∀ b o, b ∉ M → H b = some o → H1 b = some o
  nw : ∀ b o, F1 b = some o → F b = some o ∨ H b = none
  dm : ∀ b, H1 b = none → H b = none
section
variable {M M1 : List Addr} {F H F1 H1 F2 H2 F0 H0 : Hp} {p : Addr} {o u : HO}
theorem Gr.refl (h : Same F H) : Gr M F H F H := ⟨Same.refl F, h, fun _ _ _ e => e, fun _ _ e => .inl e, fun _ e => e⟩
theorem Gr.trans (g : Gr M F0 H0 F H) (k : Gr M1 F H F1 H1) (s : ∀ b ∈ M1, b ∈ M ∨ H0 b = none) : Gr M F0 H0 F1 H1 := by
  refine ⟨g.ff.trans k.ff, k.fh, fun b o hb e => ?_, fun b o e => ?_, fun b e => g.dm b (k.dm b e)⟩
  · refine k.hh b o (fun z => ?_) (g.hh b o hb e)
    rcases s b z with y | y
    · exact hb y
    · rw [y] at e; cases e
  · rcases k.nw b o e with z | z
    · exact g.nw b o z
    · exact .inr (g.dm b z)
theorem Gr.tr (g : Gr M F0 H0 F H) (k : Gr [] F H F1 H1) : Gr M F0 H0 F1 H1 := g.trans k fun _ z => nomatch z
theorem Gr.trM (g : Gr M F0 H0 F H) (k : Gr M F H F1 H1) : Gr M F0 H0 F1 H1 := g.trans k fun _ z => .inl z
theorem Gr.widen (g : Gr M F H F1 H1) (s : ∀ b ∈ M, b ∈ M1) : Gr M1 F H F1 H1 := ⟨g.ff, g.fh, fun b o hb e => g.hh b o (fun z => hb (s b z)) e, g.nw, g.dm⟩
theorem ne_some {H : Hp} {a b : Addr} (h : H a = none) (h1 : H b = some o) : b ≠ a := fun e => by rw [e, h] at h1; cases h1
theorem same_none (s : Same F H) (h : H p = none) : F p = none := s.free h
theorem upd_eq_none {a b : Addr} (h : upd H a o b = none) : H b = none := by
  by_cases e : b = a
  · subst e; rw [upd_same] at h; cases h
  · rw [upd_ne e] at h; exact h
/-- a new thing that stands still -/
theorem Gr.new (g : Gr M F0 H0 F H) (h : H p = none) : Gr M F0 H0 (upd F p o) (upd H p o) := by
  have hF : F p = none := same_none g.fh h
  refine ⟨fun b x e => ?_, fun b x e => ?_, fun b x hb e => ?_, fun b x e => ?_, fun b e => g.dm b (upd_eq_none e)⟩
  · have z := g.ff b x e
    rw [upd_ne (ne_some hF z)]; exact z
  · by_cases c : b = p
    · subst c; rw [upd_same] at e ⊢; exact e
    · rw [upd_ne c] at e ⊢; exact g.fh b x e
  · have z := g.hh b x hb e
    rw [upd_ne (ne_some h z)]; exact z
  · by_cases c : b = p
    · subst c; exact .inr (g.dm b h)
    · rw [upd_ne c] at e; exact g.nw b x e
/-- a new thing that may change -/
theorem Gr.newM (g : Gr M F0 H0 F H) (h : H p = none) : Gr M F0 H0 F (upd H p o) := by
  refine ⟨g.ff, fun b x e => ?_, fun b x hb e => ?_, g.nw, fun b e => g.dm b (upd_eq_none e)⟩
  · have z := g.fh b x e
    rw [upd_ne (ne_some h z)]; exact z
  · have z := g.hh b x hb e
    rw [upd_ne (ne_some h z)]; exact z
/-- a change at what doesn't stand still -/
theorem Gr.put (g : Gr M F0 H0 F H) (hF : F p = none) (h : p ∈ M ∨ H0 p = none) : Gr M F0 H0 F (upd H p o) := by
  refine ⟨g.ff, fun b x e => ?_, fun b x hb e => ?_, g.nw, fun b e => g.dm b (upd_eq_none e)⟩
  · rw [upd_ne (ne_some hF e)]; exact g.fh b x e
  · have c : b ≠ p := fun z => by
      subst z
      rcases h with h | h
      · exact hb h
      · rw [h] at e; cases e
    rw [upd_ne c]; exact g.hh b x hb e
/-- from now on it stands still -/
theorem Gr.freeze (g : Gr M F0 H0 F H) (h : H p = some o) (hF : F p = none) (h0 : H0 p = none) : Gr M F0 H0 (upd F p o) H := by
  refine ⟨fun b x e => ?_, fun b x e => ?_, g.hh, fun b x e => ?_, g.dm⟩
  · have z := g.ff b x e
    rw [upd_ne (ne_some hF z)]; exact z
  · by_cases c : b = p
    · subst c; rw [upd_same] at e; rw [← e]; exact h
    · rw [upd_ne c] at e; exact g.fh b x e
  · by_cases c : b = p
    · subst c; exact .inr h0
    · rw [upd_ne c] at e; exact g.nw b x e
theorem Gr.still (g : Gr M F H F1 H1) (hF : F p = none) (h : H p = some o) : F1 p = none := by
  cases e : F1 p with
  | none => rfl
  | some x =>
    rcases g.nw p x e with z | z
    · rw [hF] at z; cases z
    · rw [h] at z; cases z
end

/-- F grows, H any that has it -/
structure Bx (F H F1 H1 : Hp) : Prop where
  ff : Same F F1
  fh : Same F1 H1
theorem Bx.refl {F H : Hp} (s : Same F H) : Bx F H F H := ⟨Same.refl F, s⟩
theorem Bx.tr {M : List Addr} {F H F1 H1 F2 H2 : Hp} (g : Bx F H F1 H1) (k : Gr M F1 H1 F2 H2) : Bx F H F2 H2 := ⟨g.ff.trans k.ff, k.fh⟩
theorem Gr.bx {M : List Addr} {F H F1 H1 : Hp} (g : Gr M F H F1 H1) : Bx F H F1 H1 := ⟨g.ff, g.fh⟩
/-! ### values as data -/
mutual
inductive R (K : PySem.W.Frag) (F : Hp) : V → PyData → Prop
  | non : R K F .non .none
  | bl (b : Bool) : R K F (.bl b) (.bool b)
  | int (i : Int) : R K F (.int i) (.int i)
  | str (x : Str) : R K F (.str x) (.str x)
  | lst {a : Addr} {xs : List V} {ds : List PyData} : F a = some (.lst xs) → RA K F xs ds → R K F (.ref a) (.list ds)
  | tup {a : Addr} {xs : List V} {ds : List PyData} : SqT K F a xs → RA K F xs ds → R K F (.ref a) (.tuple ds)
inductive RA (K : PySem.W.Frag) (F : Hp) : List V → List PyData → Prop
  | nil : RA K F [] []
  | cons {v : V} {vs : List V} {d : PyData} {ds : List PyData} : R K F v d → RA K F vs ds → RA K F (v :: vs) (d :: ds)
end
section
variable {K : PySem.W.Frag} {F F1 H : Hp}
theorem sqT_same (s : Same F F1) {a : Addr} {xs : List V} (h : SqT K F a xs) : SqT K F1 a xs := by
  rcases h with (h | ⟨o, h⟩) | h
  · exact .inl (.inl (s _ _ h))
  · exact .inl (.inr ⟨o, s _ _ h⟩)
  · exact .inr h
mutual
theorem R.up (s : Same F F1) : ∀ (d : PyData) (v : V), R K F v d → R K F1 v d
  | _, _, .non => .non
  | _, _, .bl b => .bl b
  | _, _, .int i => .int i
  | _, _, .str x => .str x
  | .list ds, _, .lst h a => .lst (s _ _ h) (RA.up s ds _ a)
  | .tuple ds, _, .tup h a => .tup (sqT_same s h) (RA.up s ds _ a)
theorem RA.up (s : Same F F1) : ∀ (ds : List PyData) (vs : List V), RA K F vs ds → RA K F1 vs ds
  | [], _, .nil => .nil
  | d :: ds, _, .cons h t => .cons (R.up s d _ h) (RA.up s ds _ t)
end
theorem R.at {v : V} {d : PyData} (r : R K F v d) (s : Same F F1) : R K F1 v d := R.up s d v r
theorem RA.at {v : List V} {d : List PyData} (r : RA K F v d) (s : Same F F1) : RA K F1 v d := RA.up s d v r
mutual
theorem R.dp (s : Same F H) : ∀ (d : PyData) (v : V), R K F v d → Dp K H v d
  | _, _, .non => .non
  | _, _, .bl b => .bl b
  | _, _, .int i => .int i
  | _, _, .str x => .str x
  | .list ds, _, .lst h a => .lst (.inl (.inl (s _ _ h))) (RA.dp s ds _ a)
  | .tuple ds, _, .tup h a => .tup (sqT_same s h) (RA.dp s ds _ a)
theorem RA.dp (s : Same F H) : ∀ (ds : List PyData) (vs : List V), RA K F vs ds → DpAll K H vs ds
  | [], _, .nil => .nil
  | d :: ds, _, .cons h t => .cons (R.dp s d _ h) (RA.dp s ds _ t)
end
theorem RA.len : ∀ {vs : List V} {ds : List PyData}, RA K F vs ds → vs.length = ds.length
  | _, _, .nil => rfl
  | _, _, .cons _ t => by rw [List.length_cons, List.length_cons, RA.len t]
theorem RA.get : ∀ {vs : List V} {ds : List PyData} {i : Nat} {d : PyData}, RA K F vs ds → ds[i]? = some d → ∃ v, vs[i]? = some v ∧ R K F v d
  | _, _, _, _, .nil, e => by simp at e
  | _, _, 0, _, .cons h _, e => by
    simp only [List.getElem?_cons_zero, Option.some.injEq] at e
    subst e
    exact ⟨_, rfl, h⟩
  | _, _, i + 1, d, .cons _ t, e => by
    obtain ⟨v, h1, h2⟩ := RA.get (i := i) t (by simpa using e)
    exact ⟨v, by simpa using h1, h2⟩
theorem RA.app : ∀ {vs us : List V} {ds es : List PyData}, RA K F vs ds → RA K F us es → RA K F (vs ++ us) (ds ++ es)
  | _, _, _, _, .nil, s => s
  | _, _, _, _, .cons h t, s => .cons h (RA.app t s)
theorem RA.drop : ∀ {vs : List V} {ds : List PyData} (n : Nat), RA K F vs ds → RA K F (vs.drop n) (ds.drop n)
  | _, _, 0, r => r
  | _, _, _ + 1, .nil => .nil
  | _, _, n + 1, .cons _ t => RA.drop n t
theorem RA.take : ∀ {vs : List V} {ds : List PyData} (n : Nat), RA K F vs ds → RA K F (vs.take n) (ds.take n)
  | _, _, 0, _ => .nil
  | _, _, _ + 1, .nil => .nil
  | _, _, n + 1, .cons h t => .cons h (RA.take n t)
theorem RA.uncons {vs : List V} {d : PyData} {ds : List PyData} (r : RA K F vs (d :: ds)) : ∃ v us, vs = v :: us ∧ R K F v d ∧ RA K F us ds := by
  cases r with
  | cons h t => exact ⟨_, _, rfl, h, t⟩
theorem R.notNone {v : V} {d : PyData} {ds : List PyData} (r : R K F v d) (e : d = .tuple ds) : v ≠ .non := by
  subst e
  intro z
  subst z
  cases r
theorem R.asInt {v : V} {i : Int} (r : R K F v (.int i)) : v = .int i := by cases r; rfl
theorem R.asBl {v : V} {b : Bool} (r : R K F v (.bool b)) : v = .bl b := by cases r; rfl
theorem R.asStr {v : V} {x : Str} (r : R K F v (.str x)) : v = .str x := by cases r; rfl
theorem R.asTup {v : V} {ds : List PyData} (r : R K F v (.tuple ds)) : ∃ a xs, v = .ref a ∧ SqT K F a xs ∧ RA K F xs ds := by
  cases r with
  | tup h a => exact ⟨_, _, rfl, h, a⟩
theorem R.asLst {v : V} {ds : List PyData} (r : R K F v (.list ds)) : ∃ a xs, v = .ref a ∧ F a = some (.lst xs) ∧ RA K F xs ds := by
  cases r with
  | lst h a => exact ⟨_, _, rfl, h, a⟩
/-- the cut of data -/
def cutD (ds : List PyData) (lo hi : Option Int) : List PyData := (ds.drop (HT.sIx ds.length 0 lo)).take (HT.sIx ds.length ds.length hi - HT.sIx ds.length 0 lo)
theorem RA.cut {vs : List V} {ds : List PyData} (r : RA K F vs ds) (lo hi : Option Int) : RA K F (cutV vs lo hi) (cutD ds lo hi) := by
  unfold cutV cutD
  rw [r.len]
  exact (r.drop _).take _
theorem RA.ix {vs : List V} {ds : List PyData} {i : Int} {d : PyData} (r : RA K F vs ds) (e : atI ds i = some d) : ∃ v, atI vs i = some v ∧ R K F v d := by
  unfold atI at e ⊢
  rw [r.len]
  cases q : ixN ds.length i with
  | none => rw [q] at e; cases e
  | some j =>
    rw [q] at e
    exact r.get e
end

/-! ### the rules' readings by names -/
abbrev rTupOf (K : PySem.W.Frag) : List V → Hp → VK → Prop := fun xs H Q => ∃ p ys, xs = [.ref p] ∧ ((SqL K H p ys ∧ ∀ l, H l = none → Q (.ref l) (upd H l (.tup ys))) ∨ (SqT K H p ys ∧ Q (.ref p) H))
abbrev rListOf (K : PySem.W.Frag) : List V → Hp → VK → Prop := fun xs H Q => ∃ p ys, xs = [.ref p] ∧ (SqL K H p ys ∨ SqT K H p ys) ∧ ∀ l, H l = none → Q (.ref l) (upd H l (.lst ys))
abbrev rLenOf (K : PySem.W.Frag) : List V → Hp → VK → Prop := fun xs H Q => ∃ p ys, xs = [.ref p] ∧ (SqL K H p ys ∨ SqT K H p ys) ∧ Q (.int ys.length) H
abbrev rMax2 : List V → Hp → VK → Prop := fun xs H Q => ∃ i j, xs = [.int i, .int j] ∧ Q (.int (if j > i then j else i)) H
abbrev rMin2 : List V → Hp → VK → Prop := fun xs H Q => ∃ i j, xs = [.int i, .int j] ∧ Q (.int (if j < i then j else i)) H
abbrev rIsN0 : R2 := fun x y H Q => y = .non ∧ Q (.bl (decide (x = .non))) H
abbrev rNotN0 : R2 := fun x y H Q => y = .non ∧ Q (.bl (!decide (x = .non))) H
abbrev rAddS : R2 := fun x y H Q => ∃ i j, x = .str i ∧ y = .str j ∧ i.length + j.length ≤ sizeLine ∧ Q (.str (i ++ j)) H

theorem cutD_one (d : PyData) (ds : List PyData) : cutD (d :: ds) (some 1) none = ds := by
  unfold cutD
  rw [show HT.sIx (d :: ds).length 0 (some 1) = min 1 (d :: ds).length from HT.sIx_nat _ 0 1, HT.sIx_none, show min 1 (d :: ds).length = 1 by rw [List.length_cons]; omega]
  show List.take ((d :: ds).length - 1) ds = ds
  rw [List.length_cons, Nat.add_sub_cancel]
  exact List.take_length
theorem cut_ok (d : PyData) (ds : List PyData) : ¬ (HT.sIx (d :: ds).length 0 (some 1) = 0 ∧ HT.sIx (d :: ds).length (d :: ds).length none = (d :: ds).length) := by
  rw [show HT.sIx (d :: ds).length 0 (some 1) = min 1 (d :: ds).length from HT.sIx_nat _ 0 1, show min 1 (d :: ds).length = 1 by rw [List.length_cons]; omega]
  intro z
  cases z.1
theorem cutD_two (d e : PyData) (ds : List PyData) : cutD (d :: e :: ds) (some 2) none = ds := by
  unfold cutD
  rw [show HT.sIx (d :: e :: ds).length 0 (some 2) = min 2 (d :: e :: ds).length from HT.sIx_nat _ 0 2, HT.sIx_none, show min 2 (d :: e :: ds).length = 2 by rw [List.length_cons, List.length_cons]; omega]
  show List.take ((d :: e :: ds).length - 2) ds = ds
  rw [List.length_cons, List.length_cons, show ds.length + 1 + 1 - 2 = ds.length by omega]
  exact List.take_length
theorem cut_ok2 (d e : PyData) (ds : List PyData) : ¬ (HT.sIx (d :: e :: ds).length 0 (some 2) = 0 ∧ HT.sIx (d :: e :: ds).length (d :: e :: ds).length none = (d :: e :: ds).length) := by
  rw [show HT.sIx (d :: e :: ds).length 0 (some 2) = min 2 (d :: e :: ds).length from HT.sIx_nat _ 0 2, show min 2 (d :: e :: ds).length = 2 by rw [List.length_cons, List.length_cons]; omega]
  intro z
  cases z.1
/-! ### expressions that change nothing -/
section
variable {K : PySem.W.Frag}
def ED (K : PySem.W.Frag) (te : TE) (σ : L2.St) (F H : Hp) (d : PyData) : Prop := ∀ F1 H1, Bx F H F1 H1 → ∀ Q : VK, (∀ v F2 H2, Gr [] F1 H1 F2 H2 → R K F2 v d → Q v H2) → te σ H1 Q
def EA (K : PySem.W.Frag) (ta : TA) (σ : L2.St) (F H : Hp) (ds : List PyData) : Prop := ∀ F1 H1, Bx F H F1 H1 → ∀ Q : List V → Hp → Prop, (∀ vs F2 H2, Gr [] F1 H1 F2 H2 → RA K F2 vs ds → Q vs H2) → ta σ H1 Q
def EB (tt : TT) (σ : L2.St) (F H : Hp) (b : Bool) : Prop := ∀ F1 H1, Bx F H F1 H1 → ∀ Q : Bool → Hp → Prop, (∀ F2 H2, Gr [] F1 H1 F2 H2 → Q b H2) → tt σ H1 Q
def EO (to : TO) (σ : L2.St) (F H : Hp) (o : Option Int) : Prop := ∀ F1 H1, Bx F H F1 H1 → ∀ Q : Option Int → Hp → Prop, (∀ F2 H2, Gr [] F1 H1 F2 H2 → Q o H2) → to σ H1 Q
variable {te ta tb : TE} {σ : L2.St} {F H F1 H1 : Hp} {d e : PyData} {ds es : List PyData} {tr : TA}
theorem ED.go (h : ED K te σ F H d) (s : Same F H) {Q : VK} (q : ∀ v F2 H2, Gr [] F H F2 H2 → R K F2 v d → Q v H2) : te σ H Q := h F H (.refl s) Q q
theorem EB.go {tt : TT} {b : Bool} (h : EB tt σ F H b) (s : Same F H) {Q : Bool → Hp → Prop} (q : ∀ F2 H2, Gr [] F H F2 H2 → Q b H2) : tt σ H Q := h F H (.refl s) Q q
theorem EA.go (h : EA K tr σ F H ds) (s : Same F H) {Q : List V → Hp → Prop} (q : ∀ vs F2 H2, Gr [] F H F2 H2 → RA K F2 vs ds → Q vs H2) : tr σ H Q := h F H (.refl s) Q q
theorem ED.up (h : ED K te σ F H d) (g : Same F F1) : ED K te σ F1 H1 d := fun _ _ k => h _ _ ⟨g.trans k.ff, k.fh⟩
theorem EA.up (h : EA K tr σ F H ds) (g : Same F F1) : EA K tr σ F1 H1 ds := fun _ _ k => h _ _ ⟨g.trans k.ff, k.fh⟩
theorem EB.up {tt : TT} {b : Bool} (h : EB tt σ F H b) (g : Same F F1) : EB tt σ F1 H1 b := fun _ _ k => h _ _ ⟨g.trans k.ff, k.fh⟩
theorem ed_var {i : Nat} {v : V} (h : σ[i]? = some (some v)) (r : R K F v d) : ED K (tVar i) σ F H d := fun F1 H1 g Q q => ⟨v, h, q v F1 H1 (.refl g.fh) (r.at g.ff)⟩
theorem ed_c {v : V} (r : R K F v d) : ED K (tC v) σ F H d := fun F1 H1 g Q q => q v F1 H1 (.refl g.fh) (r.at g.ff)
theorem ed_str {x : Str} : ED K (tC (.str x)) σ F H (.str x) := ed_c (.str x)
theorem ed_int {i : Int} : ED K (tC (.int i)) σ F H (.int i) := ed_c (.int i)
theorem ed_non : ED K (tC .non) σ F H .none := ed_c .non
theorem ea_nil : EA K tNil σ F H [] := fun F1 H1 g Q q => q [] F1 H1 (.refl g.fh) .nil
theorem ea_cons (ha : ED K ta σ F H d) (hr : EA K tr σ F H ds) : EA K (tCons ta tr) σ F H (d :: ds) := fun F1 H1 g Q q =>
  ha F1 H1 g _ fun v F2 H2 g2 r => hr F2 H2 (g.tr g2) _ fun vs F3 H3 g3 rs => q (v :: vs) F3 H3 (g2.tr g3) (.cons (r.at g3.ff) rs)
theorem ed_tup (h : EA K tr σ F H ds) (hz : ds.length ≤ 100000) : ED K (tTup tr) σ F H (.tuple ds) := fun F1 H1 g Q q =>
  h F1 H1 g _ fun vs F2 H2 g2 r => ⟨by rw [r.len]; exact Nat.le_trans hz (by decide), fun p np => by
    have g3 : Gr [] F1 H1 (upd F2 p (.tup vs)) (upd H2 p (.tup vs)) := g2.new np
    refine q (.ref p) _ _ g3 (.tup (.inl (.inl upd_same)) (r.at fun b o e => ?_))
    rw [upd_ne (ne_some (same_none g2.fh np) e)]; exact e⟩
theorem ed_lst (h : EA K tr σ F H ds) (hz : ds.length ≤ 100000) : ED K (tLst tr) σ F H (.list ds) := fun F1 H1 g Q q =>
  h F1 H1 g _ fun vs F2 H2 g2 r => ⟨by rw [r.len]; exact Nat.le_trans hz (by decide), fun p np => by
    have g3 : Gr [] F1 H1 (upd F2 p (.lst vs)) (upd H2 p (.lst vs)) := g2.new np
    refine q (.ref p) _ _ g3 (.lst upd_same (r.at fun b o e => ?_))
    rw [upd_ne (ne_some (same_none g2.fh np) e)]; exact e⟩
/-- two things, then a rule on them -/
def RR (K : PySem.W.Frag) (r : R2) (F H : Hp) (d e f : PyData) : Prop := ∀ F1 H1, Bx F H F1 H1 → ∀ x y, R K F1 x d → R K F1 y e → ∀ Q : VK, (∀ v F2 H2, Gr [] F1 H1 F2 H2 → R K F2 v f → Q v H2) → r x y H1 Q
theorem ed_op {r : R2} {f : PyData} (ha : ED K ta σ F H d) (hb : ED K tb σ F H e) (hr : RR K r F H d e f) : ED K (tOp r ta tb) σ F H f := fun F1 H1 g Q q =>
  ha F1 H1 g _ fun v F2 H2 g2 r1 => hb F2 H2 (g.tr g2) _ fun u F3 H3 g3 r2 => hr F3 H3 ((g.tr g2).tr g3) v u (r1.at g3.ff) r2 Q fun z F4 H4 g4 r4 => q z F4 H4 ((g2.tr g3).tr g4) r4
theorem rr_ixT {i : Int} (h : atI ds i = some d) : RR K (rIxT K) F H (.tuple ds) (.int i) d := fun F1 H1 g x y r1 r2 Q q => by
  obtain ⟨a, xs, rfl, hs, ra⟩ := r1.asTup
  cases r2.asInt
  obtain ⟨v, e, rv⟩ := ra.ix h
  exact ⟨a, xs, i, v, rfl, rfl, sqT_same g.fh hs, e, q v F1 H1 (.refl g.fh) rv⟩
theorem rr_ixL {i : Int} (h : atI ds i = some d) : RR K (rIxL K) F H (.list ds) (.int i) d := fun F1 H1 g x y r1 r2 Q q => by
  obtain ⟨a, xs, rfl, hs, ra⟩ := r1.asLst
  cases r2.asInt
  obtain ⟨v, e, rv⟩ := ra.ix h
  exact ⟨a, xs, i, v, rfl, rfl, .inl (.inl (g.fh _ _ hs)), e, q v F1 H1 (.refl g.fh) rv⟩
theorem rr_eqD (h1 : SeqAt.shaped d = true) (h2 : SeqAt.shaped e = true) : RR K (rEqD K) F H d e (.bool (PyData.eqv d e)) := fun F1 H1 g x y r1 r2 Q q =>
  ⟨d, e, r1.dp g.fh d x, r2.dp g.fh e y, h1, h2, q _ F1 H1 (.refl g.fh) (.bl _)⟩
theorem rr_neD (h1 : SeqAt.shaped d = true) (h2 : SeqAt.shaped e = true) : RR K (rNeD K) F H d e (.bool (!PyData.eqv d e)) := fun F1 H1 g x y r1 r2 Q q =>
  ⟨d, e, r1.dp g.fh d x, r2.dp g.fh e y, h1, h2, q _ F1 H1 (.refl g.fh) (.bl _)⟩
theorem rr_eqS {x y : Str} : RR K rEq F H (.str x) (.str y) (.bool (decide (x = y))) := fun F1 H1 g u v r1 r2 Q q => by
  cases r1.asStr
  cases r2.asStr
  refine ⟨rfl, ?_⟩
  have z := q (.bl (decide (x = y))) F1 H1 (.refl g.fh) (.bl _)
  rw [show decide (V.str x = V.str y) = decide (x = y) by simp]
  exact z
theorem rr_neS {x y : Str} : RR K rNe F H (.str x) (.str y) (.bool (!decide (x = y))) := fun F1 H1 g u v r1 r2 Q q => by
  cases r1.asStr
  cases r2.asStr
  refine ⟨rfl, ?_⟩
  have z := q (.bl (!decide (x = y))) F1 H1 (.refl g.fh) (.bl _)
  rw [show decide (V.str x = V.str y) = decide (x = y) by simp]
  exact z
theorem rr_I0 {gg : Int → Int → Int} {i j : Int} : RR K (rI0 fun i j => .int (gg i j)) F H (.int i) (.int j) (.int (gg i j)) := fun F1 H1 g u v r1 r2 Q q => by
  cases r1.asInt
  cases r2.asInt
  exact ⟨i, j, rfl, rfl, q _ F1 H1 (.refl g.fh) (.int _)⟩
theorem rr_catT (hn : ds ≠ []) (hz : ds.length + es.length ≤ 100000) : RR K (rCatT K) F H (.tuple ds) (.tuple es) (.tuple (ds ++ es)) := fun F1 H1 g x y r1 r2 Q q => by
  obtain ⟨a, xs, rfl, hs, ra⟩ := r1.asTup
  obtain ⟨b, ys, rfl, hs2, rb⟩ := r2.asTup
  refine ⟨a, b, xs, ys, rfl, rfl, sqT_same g.fh hs, sqT_same g.fh hs2, fun z => ?_, ?_, fun z => ?_, fun z p np => ?_⟩
  · subst z
    cases ra
    exact hn rfl
  · rw [ra.len, rb.len]; exact Nat.le_trans hz (by decide)
  · subst z
    cases rb
    rw [List.append_nil] at q
    exact q _ F1 H1 (.refl g.fh) r1
  · have g3 : Gr [] F1 H1 (upd F1 p (.tup (xs ++ ys))) (upd H1 p (.tup (xs ++ ys))) := (Gr.refl g.fh).new np
    refine q (.ref p) _ _ g3 (.tup (.inl (.inl upd_same)) ((ra.app rb).at g3.ff))
theorem rr_cat (hz : ds.length + es.length ≤ 100000) : RR K rCat F H (.list ds) (.list es) (.list (ds ++ es)) := fun F1 H1 g x y r1 r2 Q q => by
  obtain ⟨a, xs, rfl, hs, ra⟩ := r1.asLst
  obtain ⟨b, ys, rfl, hs2, rb⟩ := r2.asLst
  refine ⟨a, b, xs, ys, rfl, rfl, g.fh _ _ hs, g.fh _ _ hs2, ?_, fun p np => ?_⟩
  · rw [ra.len, rb.len]; exact Nat.le_trans hz (by decide)
  · have g3 : Gr [] F1 H1 (upd F1 p (.lst (xs ++ ys))) (upd H1 p (.lst (xs ++ ys))) := (Gr.refl g.fh).new np
    refine q (.ref p) _ _ g3 (.lst upd_same ((ra.app rb).at g3.ff))
/-- flat data -/
def flatD : PyData → Bool
  | .none => true
  | .bool _ => true
  | .int _ => true
  | .str _ => true
  | _ => false
theorem R.flat {v : V} (r : R K F v d) (h : flatD d = true) : flatV v = true := by cases r <;> first | rfl | cases h
theorem RA.flat : ∀ {vs : List V} {ds : List PyData}, RA K F vs ds → ds.all flatD = true → vs.all flatV = true
  | _, _, .nil, _ => rfl
  | _, _, .cons h t, e => by
    rw [List.all_cons, Bool.and_eq_true] at e ⊢
    exact ⟨h.flat e.1, RA.flat t e.2⟩
theorem eqv_flat {u v : V} {d e : PyData} (h1 : R K F u d) (h2 : R K F v e) (f1 : flatD d = true) (f2 : flatD e = true) : eqV u v = PyData.eqv d e := by
  cases h1 <;> cases h2 <;> first | rfl | cases f1 | cases f2 | simp [eqV, PyData.eqv]
theorem inV_flat {x : V} (r : R K F x d) (f : flatD d = true) : ∀ {vs : List V} {ds : List PyData}, RA K F vs ds → ds.all flatD = true → inV x vs = ds.any fun z => PyData.eqv z d
  | _, _, .nil, _ => rfl
  | _, _, .cons h t, e => by
    rw [List.all_cons, Bool.and_eq_true] at e
    have ih := inV_flat r f t e.2
    unfold inV at ih ⊢
    rw [List.any_cons, List.any_cons, ih, eqv_flat h r e.1 f]
theorem rr_inT (f : flatD d = true) (fs : ds.all flatD = true) : RR K (rIn K false) F H d (.tuple ds) (.bool (ds.any fun z => PyData.eqv z d)) := fun F1 H1 g x y r1 r2 Q q => by
  obtain ⟨a, xs, rfl, hs, ra⟩ := r2.asTup
  refine ⟨a, xs, rfl, .inr (sqT_same g.fh hs), r1.flat f, ra.flat fs, ?_⟩
  show Q (.bl (inV x xs)) H1
  rw [inV_flat r1 f ra fs]
  exact q _ F1 H1 (.refl g.fh) (.bl _)
theorem rr_inL (f : flatD d = true) (fs : ds.all flatD = true) : RR K (rIn K false) F H d (.list ds) (.bool (ds.any fun z => PyData.eqv z d)) := fun F1 H1 g x y r1 r2 Q q => by
  obtain ⟨a, xs, rfl, hs, ra⟩ := r2.asLst
  refine ⟨a, xs, rfl, .inl (.inl (.inl (g.fh _ _ hs))), r1.flat f, ra.flat fs, ?_⟩
  show Q (.bl (inV x xs)) H1
  rw [inV_flat r1 f ra fs]
  exact q _ F1 H1 (.refl g.fh) (.bl _)
theorem rr_notInL (f : flatD d = true) (fs : ds.all flatD = true) : RR K (rIn K true) F H d (.list ds) (.bool (!ds.any fun z => PyData.eqv z d)) := fun F1 H1 g x y r1 r2 Q q => by
  obtain ⟨a, xs, rfl, hs, ra⟩ := r2.asLst
  refine ⟨a, xs, rfl, .inl (.inl (.inl (g.fh _ _ hs))), r1.flat f, ra.flat fs, ?_⟩
  show Q (.bl (!inV x xs)) H1
  rw [inV_flat r1 f ra fs]
  exact q _ F1 H1 (.refl g.fh) (.bl _)
/-! ### slices, calls of built-ins -/
theorem eo_none : EO tNoPart σ F H none := fun F1 H1 g Q q => q F1 H1 (.refl g.fh)
theorem eo_some {i : Int} (h : ED K te σ F H (.int i)) : EO (tPart te) σ F H (some i) := fun F1 H1 g Q q => h F1 H1 g _ fun v F2 H2 g2 r => ⟨i, r.asInt, q F2 H2 g2⟩
theorem ed_slT {tl th : TO} {lo hi : Option Int} (h : ED K te σ F H (.tuple ds)) (h1 : EO tl σ F H lo) (h2 : EO th σ F H hi) (hw : ¬ (HT.sIx ds.length 0 lo = 0 ∧ HT.sIx ds.length ds.length hi = ds.length)) : ED K (tSl (rSlT K) te tl th) σ F H (.tuple (cutD ds lo hi)) := fun F1 H1 g Q q =>
  h F1 H1 g _ fun v F2 H2 g2 r => h1 F2 H2 (g.tr g2) _ fun F3 H3 g3 => h2 F3 H3 ((g.tr g2).tr g3) _ fun F4 H4 g4 => by
    obtain ⟨a, xs, rfl, hs, ra⟩ := (r.at (g3.tr g4).ff).asTup
    refine ⟨a, xs, rfl, sqT_same g4.fh hs, by rw [ra.len]; exact hw, fun p np => ?_⟩
    have g5 : Gr [] F1 H1 (upd F4 p (.tup (cutV xs lo hi))) (upd H4 p (.tup (cutV xs lo hi))) := ((g2.tr g3).tr g4).new np
    refine q (.ref p) _ _ g5 (.tup (.inl (.inl upd_same)) ((ra.cut lo hi).at ?_))
    exact ((Gr.refl g4.fh).new (M := []) np).ff
/-- a built-in's call on data -/
def RCD (K : PySem.W.Frag) (r : List V → Hp → VK → Prop) (F H : Hp) (ds : List PyData) (f : PyData) : Prop := ∀ F1 H1, Bx F H F1 H1 → ∀ vs, RA K F1 vs ds → ∀ Q : VK, (∀ v F2 H2, Gr [] F1 H1 F2 H2 → R K F2 v f → Q v H2) → r vs H1 Q
theorem ed_cb {r : List V → Hp → VK → Prop} {f : PyData} (ha : EA K tr σ F H ds) (hr : RCD K r F H ds f) : ED K (tCB r tr) σ F H f := fun F1 H1 g Q q =>
  ha F1 H1 g _ fun vs F2 H2 g2 r1 => hr F2 H2 (g.tr g2) vs r1 Q fun z F3 H3 g3 r3 => q z F3 H3 (g2.tr g3) r3
theorem RA.one {vs : List V} (r : RA K F vs [d]) : ∃ v, vs = [v] ∧ R K F v d := by
  cases r with
  | cons h t => cases t; exact ⟨_, rfl, h⟩
theorem RA.two {vs : List V} (r : RA K F vs [d, e]) : ∃ v u, vs = [v, u] ∧ R K F v d ∧ R K F u e := by
  cases r with
  | cons h t =>
    obtain ⟨u, rfl, r⟩ := t.one
    exact ⟨_, u, rfl, h, r⟩
theorem rc_tupleL : RCD K (rTupOf K) F H [.list ds] (.tuple ds) := fun F1 H1 g vs r Q q => by
  obtain ⟨v, rfl, r1⟩ := r.one
  obtain ⟨a, xs, rfl, hs, ra⟩ := r1.asLst
  refine ⟨a, xs, rfl, .inl ⟨.inl (.inl (g.fh _ _ hs)), fun p np => ?_⟩⟩
  have g3 : Gr [] F1 H1 (upd F1 p (.tup xs)) (upd H1 p (.tup xs)) := (Gr.refl g.fh).new np
  exact q (.ref p) _ _ g3 (.tup (.inl (.inl upd_same)) (ra.at g3.ff))
theorem rc_lenL : RCD K (rLenOf K) F H [.list ds] (.int ds.length) := fun F1 H1 g vs r Q q => by
  obtain ⟨v, rfl, r1⟩ := r.one
  obtain ⟨a, xs, rfl, hs, ra⟩ := r1.asLst
  refine ⟨a, xs, rfl, .inl (.inl (.inl (g.fh _ _ hs))), ?_⟩
  rw [ra.len]
  exact q _ F1 H1 (.refl g.fh) (.int _)
def tyD : PyData → String
  | .none => "NoneType"
  | .bool _ => "bool"
  | .int _ => "int"
  | .str _ => "str"
  | .list _ => "list"
  | .tuple _ => "tuple"
  | .dict _ => "dict"
theorem R.ty {v : V} (r : R K F v d) (s : Same F H) : TyX K H v (.type (tyD d)) := by
  cases r with
  | non => exact .base .non
  | bl b => exact .base (.bl b)
  | int i => exact .base (.int i)
  | str x => exact .base (.str x)
  | lst h _ => exact .base (.lst (s _ _ h))
  | tup h _ =>
    rcases h with (h | ⟨o, h⟩) | ⟨o, its, n, h, hc, _⟩
    · exact .base (.tup (s _ _ h))
    · exact .fTuple (s _ _ h)
    · exact .kTuple h hc
/-! ### tests -/
def isNone : PyData → Bool
  | .none => true
  | _ => false
theorem rr_isN : RR K rIsN0 F H d .none (.bool (isNone d)) := fun F1 H1 g x y r1 r2 Q q => by
  have e2 : y = .non := by cases r2; rfl
  refine ⟨e2, ?_⟩
  have e : decide (x = V.non) = isNone d := by cases r1 <;> rfl
  rw [e]
  exact q _ F1 H1 (.refl g.fh) (.bl _)
theorem eb_test {b : Bool} (h : ED K te σ F H (.bool b)) : EB (tTest te) σ F H b := fun F1 H1 g Q q => h F1 H1 g _ fun v F2 H2 g2 r => ⟨b, r.asBl, q F2 H2 g2⟩
theorem eb_B {b : Bool} (h : ED K te σ F H (.bool b)) : EB (tB te) σ F H b := fun F1 H1 g Q q => h F1 H1 g _ fun v F2 H2 g2 r => ⟨b, r.asBl, q F2 H2 g2⟩
theorem eb_not {tt : TT} {b : Bool} (h : EB tt σ F H b) : EB (tNot tt) σ F H (!b) := fun F1 H1 g Q q => h F1 H1 g _ fun F2 H2 g2 => q F2 H2 g2
theorem eb_and {t u : TT} {a b : Bool} (h1 : EB t σ F H a) (h2 : a = true → EB u σ F H b) : EB (tAnd t u) σ F H (a && b) := fun F1 H1 g Q q => h1 F1 H1 g _ fun F2 H2 g2 => by
  cases a
  · exact iteF (q F2 H2 g2)
  · exact iteT (h2 rfl F2 H2 (g.tr g2) Q fun F3 H3 g3 => q F3 H3 (g2.tr g3))
theorem eb_or {t u : TT} {a b : Bool} (h1 : EB t σ F H a) (h2 : a = false → EB u σ F H b) : EB (tOr t u) σ F H (a || b) := fun F1 H1 g Q q => h1 F1 H1 g _ fun F2 H2 g2 => by
  cases a
  · exact iteF (h2 rfl F2 H2 (g.tr g2) Q fun F3 H3 g3 => q F3 H3 (g2.tr g3))
  · exact iteT (q F2 H2 g2)
theorem eb_isi {i : Nat} {v : V} {c : String} {b : Bool} (h : σ[i]? = some (some v)) (r : R K F v d) (hb : kitB (tyD d) c = some b) : EB (tB (tCB (rIsi K) (tCons (tVar i) (tCons (tC (.ty c)) tNil)))) σ F H b := fun F1 H1 g Q q =>
  ⟨v, h, v, .ty c, .type (tyD d), .type c, b, rfl, .ty c, (r.at g.ff).ty g.fh, kit_ty hb, b, rfl, q F1 H1 (.refl g.fh)⟩
/-! ### statements -/
variable {D : Ends} {tz tu tw : TS}
theorem q_set {i : Nat} (h : ED K te σ F H d) (s : Same F H) (k : ∀ v F1 H1, Gr [] F H F1 H1 → R K F1 v d → tz D (σ.set i (some v)) H1) : tSeq (tAsg te (gName i)) tz D σ H := h.go s fun v F1 H1 g r => k v F1 H1 g r
theorem q_when {tt : TT} {b : Bool} (h : EB tt σ F H b) (s : Same F H) (h1 : b = true → ∀ F1 H1, Gr [] F H F1 H1 → tu { D with nx := tz D } σ H1) (h2 : b = false → ∀ F1 H1, Gr [] F H F1 H1 → tz D σ H1) : tSeq (tIfS tt tu tNext) tz D σ H := h.go s fun F1 H1 g => by
  cases b
  · exact iteF (h2 rfl F1 H1 g)
  · exact iteT (h1 rfl F1 H1 g)
theorem q_ret (h : ED K te σ F H d) (s : Same F H) (k : ∀ v F1 H1, Gr [] F H F1 H1 → R K F1 v d → D.rt v H1) : tRet te D σ H := h.go s k
theorem q_ifNone {i j : Nat} {v : V} (h : σ[i]? = some (some v)) (e : v = .non) (k : te σ H fun x H1 => tz D (σ.set j (some x)) H1) : tSeq (tIfS (tTest (tOp rIsN0 (tVar i) (tC .non))) (tAsg te (gName j)) tNext) tz D σ H :=
  ⟨v, h, rfl, _, rfl, by subst e; exact iteT k⟩
theorem q_ifSome {v : V} {i : Nat} (h : σ[i]? = some (some v)) (e : v ≠ .non) (k : tz D σ H) : tSeq (tIfS (tTest (tOp rIsN0 (tVar i) (tC .non))) tu tNext) tz D σ H :=
  ⟨v, h, rfl, _, rfl, by rw [decide_eq_false e]; exact iteF k⟩
/-! ### calls of defs that give data for data -/
/-- a def that, given ds, gives d, as A tells -/
def SpD (K : PySem.W.Frag) (A : List PyData → PyData → Prop) : Sp := fun vs H Q _ => ∃ F ds d, Same F H ∧ RA K F vs ds ∧ A ds d ∧ ∀ v F1 H1, Gr [] F H F1 H1 → R K F1 v d → Q v H1
theorem ed_call {A : List PyData → PyData → Prop} {E : XK} (h : EA K tr σ F H ds) (hc : A ds d) : ED K (tCall (SpD K A) [] E tr) σ F H d := fun F1 H1 g Q q =>
  h F1 H1 g _ fun vs F2 H2 g2 r => by
    rw [List.append_nil]
    exact ⟨F2, ds, d, g2.fh, r, hc, fun v F3 H3 g3 r3 => q v F3 H3 (g2.tr g3) r3⟩
/-! ### [e for x in t], t a tuple or a list of data, e of data -/
/-- the list made so far -/
def Mk (K : PySem.W.Frag) (F H : Hp) (Dl : Addr) (es : List PyData) (H1 : Hp) : Prop := ∃ F1 acc, Gr [] F H F1 H1 ∧ H Dl = none ∧ H1 Dl = some (.lst acc) ∧ F1 Dl = none ∧ RA K F1 acc es
theorem Mk.start {Dl : Addr} (s : Same F H) (h : H Dl = none) : Mk K F H Dl [] (upd H Dl (.lst [])) := ⟨F, [], (Gr.refl s).newM h, h, upd_same, same_none s h, .nil⟩
theorem Mk.turn {Dl : Addr} {es : List PyData} (m : Mk K F H Dl es H1) (hz : es.length < 100000) (he : ∀ F1, Gr [] F H F1 H1 → ED K te σ F1 H1 d) : te σ H1 fun y H4 => ∃ acc, H4 Dl = some (.lst acc) ∧ acc.length < sizeLine ∧ Mk K F H Dl (es ++ [d]) (upd H4 Dl (.lst (acc ++ [y]))) := by
  obtain ⟨F1, acc, g, h0, h1, h2, ra⟩ := m
  refine (he F1 g).go g.fh fun v F2 H2 g2 r => ?_
  have hF : F2 Dl = none := g2.still h2 h1
  refine ⟨acc, g2.hh _ _ (fun z => nomatch z) h1, by rw [ra.len]; exact Nat.lt_of_lt_of_le hz (by decide), F2, acc ++ [v], (g.tr g2).put hF (.inr h0), h0, upd_same, hF, (ra.at g2.ff).app (.cons r .nil)⟩
theorem Mk.done {Dl : Addr} {es : List PyData} (m : Mk K F H Dl es H1) {Q : VK} (q : ∀ v F2 H2, Gr [] F H F2 H2 → R K F2 v (.list es) → Q v H2) : Q (.ref Dl) H1 := by
  obtain ⟨F1, acc, g, h0, h1, h2, ra⟩ := m
  have g2 := g.freeze h1 h2 h0
  refine q (.ref Dl) _ H1 g2 (.lst upd_same (ra.at fun b o e => ?_))
  rw [upd_ne (ne_some h2 e)]; exact e
theorem Mk.gr {Dl : Addr} {es : List PyData} (m : Mk K F H Dl es H1) : ∃ F1, Gr [] F H F1 H1 := by
  obtain ⟨F1, _, g, _⟩ := m
  exact ⟨F1, g⟩
theorem take_map {α β : Type} {l : List α} {i : Nat} {x : α} (f : α → β) (h : l[i]? = some x) : (l.take (i + 1)).map f = (l.take i).map f ++ [f x] := by
  rw [List.take_succ, h, List.map_append]
  rfl
theorem RA.back : ∀ {vs : List V} {ds : List PyData} {i : Nat} {v : V}, RA K F vs ds → vs[i]? = some v → ∃ d, ds[i]? = some d ∧ R K F v d
  | _, _, _, _, .nil, e => by simp at e
  | _, _, 0, _, .cons h _, e => by
    simp only [List.getElem?_cons_zero, Option.some.injEq] at e
    subst e
    exact ⟨_, rfl, h⟩
  | _, _, i + 1, v, .cons _ t, e => by
    obtain ⟨d, h1, h2⟩ := RA.back (i := i) t (by simpa using e)
    exact ⟨d, by simpa using h1, h2⟩
theorem get_map {α β : Type} {f : α → β} {l : List α} {i : Nat} {y : β} (h : (l.map f)[i]? = some y) : ∃ x, l[i]? = some x ∧ y = f x := by
  rw [List.getElem?_map] at h
  cases e : l[i]? with
  | none => rw [e] at h; cases h
  | some x => rw [e] at h; exact ⟨x, rfl, (Option.some.inj h).symm⟩
theorem ed_lcT {α : Type} {xs : List α} {e f : α → PyData} {j : Nat} {vs : List Nat} (h : ED K te σ F H (.tuple (xs.map e))) (hz : xs.length ≤ 50000) (hw : ∀ x, wipe ((wipe σ vs).set j (some x)) vs = wipe σ vs)
    (he : ∀ a x F1 H1, a ∈ xs → Bx F H F1 H1 → R K F1 x (e a) → ED K ta ((wipe σ vs).set j (some x)) F1 H1 (f a)) : ED K (tLc (iTup K te) (gName j) tYes ta vs) σ F H (.list (xs.map f)) := fun F1 H1 g Q q => by
  refine h F1 H1 g _ fun v F2 H2 g2 r => ?_
  obtain ⟨a, ys, rfl, hs, ra⟩ := r.asTup
  refine ⟨a, rfl, ⟨ys, sqT_same g2.fh hs⟩, fun Dl nD => ?_⟩
  have hl : ys.length = xs.length := by rw [ra.len, List.length_map]
  refine lc_tup (xs := ys) (fun i H3 => Mk K F2 H2 Dl ((xs.take i).map f) H3) (Mk.start g2.fh nD) (fun i H3 _ m => ?_) (fun i x H3 hx m => ⟨hw x, ?_⟩) fun H3 m => ?_
  · obtain ⟨F3, g3⟩ := m.gr
    exact sqT_same g3.fh (sqT_same g3.ff hs)
  · obtain ⟨d, hd, rd⟩ := ra.back hx
    obtain ⟨z, hz2, rfl⟩ := get_map hd
    refine iteT (B := Mk K F2 H2 Dl ((xs.take (i + 1)).map f) H3) ?_
    rw [take_map f hz2]
    refine m.turn (by rw [List.length_map, List.length_take]; omega) fun F3 g3 => he z x F3 H3 (List.mem_of_getElem? hz2) ((g.tr g2).tr g3) (rd.at g3.ff)
  · rw [hl, List.take_length] at m
    exact m.done fun v F3 H4 g3 r3 => q v F3 H4 (g2.tr g3) r3
theorem ed_lcL {α : Type} {xs : List α} {e f : α → PyData} {j : Nat} {vs : List Nat} (h : ED K te σ F H (.list (xs.map e))) (hz : xs.length ≤ 50000) (hw : ∀ x, wipe ((wipe σ vs).set j (some x)) vs = wipe σ vs)
    (he : ∀ a x F1 H1, a ∈ xs → Bx F H F1 H1 → R K F1 x (e a) → ED K ta ((wipe σ vs).set j (some x)) F1 H1 (f a)) : ED K (tLc (iList K te) (gName j) tYes ta vs) σ F H (.list (xs.map f)) := fun F1 H1 g Q q => by
  refine h F1 H1 g _ fun v F2 H2 g2 r => ?_
  obtain ⟨a, ys, rfl, hs, ra⟩ := r.asLst
  refine ⟨a, rfl, ⟨ys, .inl (.inl (g2.fh _ _ hs))⟩, fun Dl nD => ?_⟩
  have hl : ys.length = xs.length := by rw [ra.len, List.length_map]
  refine lc_list (xs := ys) (fun i H3 => Mk K F2 H2 Dl ((xs.take i).map f) H3) (Mk.start g2.fh nD) (fun i H3 _ m => ?_) (fun i x H3 hx m => ⟨hw x, ?_⟩) fun H3 m => ?_
  · obtain ⟨F3, g3⟩ := m.gr
    exact .inl (.inl (g3.fh _ _ (g3.ff _ _ hs)))
  · obtain ⟨d, hd, rd⟩ := ra.back hx
    obtain ⟨z, hz2, rfl⟩ := get_map hd
    refine iteT (B := Mk K F2 H2 Dl ((xs.take (i + 1)).map f) H3) ?_
    rw [take_map f hz2]
    refine m.turn (by rw [List.length_map, List.length_take]; omega) fun F3 g3 => he z x F3 H3 (List.mem_of_getElem? hz2) ((g.tr g2).tr g3) (rd.at g3.ff)
  · rw [hl, List.take_length] at m
    exact m.done fun v F3 H4 g3 r3 => q v F3 H4 (g2.tr g3) r3
/-! ### loops -/
theorem q_forT {j : Nat} {tb : TS} (h : ED K te σ F H (.tuple ds)) (s : Same F H)
    (k : ∀ F1 H1, Gr [] F H F1 H1 → ∃ Pv : Nat → L2.St → Hp → Prop, Pv 0 σ H1 ∧ (∀ i σ2 H2, Pv i σ2 H2 → ∃ F2, Same F2 H2 ∧ Same F1 F2) ∧
      (∀ i x d σ2 H2, ds[i]? = some d → R K F1 x d → Pv i σ2 H2 → tb { D with nx := Pv (i + 1), ct := Pv (i + 1), bk := tz D } (σ2.set j (some x)) H2) ∧ ∀ σ2 H2, Pv ds.length σ2 H2 → tz D σ2 H2) : tSeq (tFor (iTup K te) (gName j) tb) tz D σ H := by
  refine h.go s fun v F1 H1 g r => ?_
  obtain ⟨a, xs, rfl, hs, ra⟩ := r.asTup
  obtain ⟨Pv, p0, pk, ps, pd⟩ := k F1 H1 g
  refine ⟨a, rfl, ⟨xs, sqT_same g.fh hs⟩, for_tup (xs := xs) (D := { D with nx := tz D }) Pv p0 (fun i σ2 H2 _ p => ?_) (fun i x σ2 H2 hx p => ?_) fun σ2 H2 p => ?_⟩
  · obtain ⟨F2, s1, s2⟩ := pk i σ2 H2 p
    exact sqT_same s1 (sqT_same s2 hs)
  · obtain ⟨d, hd, rd⟩ := ra.back hx
    exact ps i x d σ2 H2 hd rd p
  · rw [ra.len] at p
    exact pd σ2 H2 p
theorem q_forL {j : Nat} {tb : TS} (h : ED K te σ F H (.list ds)) (s : Same F H)
    (k : ∀ F1 H1, Gr [] F H F1 H1 → ∃ Pv : Nat → L2.St → Hp → Prop, Pv 0 σ H1 ∧ (∀ i σ2 H2, Pv i σ2 H2 → ∃ F2, Same F2 H2 ∧ Same F1 F2) ∧
      (∀ i x d σ2 H2, ds[i]? = some d → R K F1 x d → Pv i σ2 H2 → tb { D with nx := Pv (i + 1), ct := Pv (i + 1), bk := tz D } (σ2.set j (some x)) H2) ∧ ∀ σ2 H2, Pv ds.length σ2 H2 → tz D σ2 H2) : tSeq (tFor (iList K te) (gName j) tb) tz D σ H := by
  refine h.go s fun v F1 H1 g r => ?_
  obtain ⟨a, xs, rfl, hs, ra⟩ := r.asLst
  obtain ⟨Pv, p0, pk, ps, pd⟩ := k F1 H1 g
  refine ⟨a, rfl, ⟨xs, .inl (.inl (g.fh _ _ hs))⟩, for_list (xs := xs) (D := { D with nx := tz D }) Pv p0 (fun i σ2 H2 _ p => ?_) (fun i x σ2 H2 hx p => ?_) fun σ2 H2 p => ?_⟩
  · obtain ⟨F2, s1, s2⟩ := pk i σ2 H2 p
    exact .inl (.inl (s1 _ _ (s2 _ _ hs)))
  · obtain ⟨d, hd, rd⟩ := ra.back hx
    exact ps i x d σ2 H2 hd rd p
  · rw [ra.len] at p
    exact pd σ2 H2 p
/-- a list of one's own at p, of these data -/
structure Own (K : PySem.W.Frag) (F0 H0 F H : Hp) (p : Addr) (es : List PyData) : Prop where
  gr : Gr [] F0 H0 F H
  new : H0 p = none
  ex : ∃ acc, H p = some (.lst acc) ∧ F p = none ∧ RA K F acc es
theorem Own.more {F0 H0 : Hp} {p : Addr} {es : List PyData} (o : Own K F0 H0 F H p es) (g : Gr [] F H F1 H1) : Own K F0 H0 F1 H1 p es := by
  obtain ⟨acc, h1, h2, ra⟩ := o.ex
  exact ⟨o.gr.tr g, o.new, acc, g.hh _ _ (fun z => nomatch z) h1, g.still h2 h1, ra.at g.ff⟩
theorem Own.still {F0 H0 : Hp} {p : Addr} {es : List PyData} (o : Own K F0 H0 F H p es) : ∃ F2, Gr [] F0 H0 F2 H ∧ Same F F2 ∧ R K F2 (.ref p) (.list es) := by
  obtain ⟨acc, h1, h2, ra⟩ := o.ex
  have s : Same F (upd F p (.lst acc)) := fun b u e => by rw [upd_ne (ne_some h2 e)]; exact e
  exact ⟨_, o.gr.freeze h1 h2 o.new, s, .lst upd_same (ra.at s)⟩
theorem Own.start {F0 H0 : Hp} {p : Addr} (g : Gr [] F0 H0 F H) (h : H p = none) : Own K F0 H0 F (upd H p (.lst [])) p [] := ⟨g.newM h, g.dm p h, [], upd_same, same_none g.fh h, .nil⟩
/-- p.extend(e) -/
theorem own_extend {F0 H0 : Hp} {p : Addr} {i : Nat} (o : Own K F0 H0 F H p es) (hi : σ[i]? = some (some (.ref p))) (h : ED K te σ F H (.list ds)) (hz : es.length + ds.length ≤ 100000) {D : Ends} (k : ∀ F1 H1, Own K F0 H0 F1 H1 p (es ++ ds) → Same F F1 → D.nx σ H1) :
    tDrop (tBM K "list" rExtend (tVar i) (tCons te tNil)) D σ H := by
  obtain ⟨acc, h1, h2, ra⟩ := o.ex
  refine ⟨.ref p, hi, .inl ⟨rfl, _, .inl (.inl h1)⟩, ?_⟩
  refine h.go o.gr.fh fun v F1 H1 g r => ?_
  obtain ⟨b, ys, rfl, hs, rb⟩ := r.asLst
  obtain ⟨acc1, k1, k2, ra1⟩ := (o.more g).ex
  refine ⟨p, b, acc1, ys, rfl, rfl, k1, g.fh _ _ hs, ?_, ?_⟩
  · rw [ra1.len, rb.len]; exact Nat.le_trans hz (by decide)
  · exact k F1 _ ⟨(o.gr.tr g).put k2 (.inr o.new), o.new, acc1 ++ ys, upd_same, k2, ra1.app rb⟩ g.ff
/-- p.append(e) -/
theorem own_append {F0 H0 : Hp} {p : Addr} {i : Nat} (o : Own K F0 H0 F H p es) (hi : σ[i]? = some (some (.ref p))) (h : ED K te σ F H d) (hz : es.length < 100000) {D : Ends} (k : ∀ F1 H1, Own K F0 H0 F1 H1 p (es ++ [d]) → Same F F1 → D.nx σ H1) :
    tDrop (tBM K "list" rAppend (tVar i) (tCons te tNil)) D σ H := by
  obtain ⟨acc, h1, h2, ra⟩ := o.ex
  refine ⟨.ref p, hi, .inl ⟨rfl, _, .inl (.inl h1)⟩, ?_⟩
  refine h.go o.gr.fh fun v F1 H1 g r => ?_
  obtain ⟨acc1, k1, k2, ra1⟩ := (o.more g).ex
  refine ⟨p, acc1, v, rfl, rfl, k1, ?_, ?_⟩
  · rw [ra1.len]; exact Nat.lt_of_lt_of_le hz (by decide)
  · exact k F1 _ ⟨(o.gr.tr g).put k2 (.inr o.new), o.new, acc1 ++ [v], upd_same, k2, ra1.app (.cons r .nil)⟩ g.ff
/-- [..], as one's own -/
theorem own_display {F0 H0 : Hp} (g : Gr [] F0 H0 F H) (h : EA K tr σ F H ds) (hz : ds.length ≤ 100000) {Q : VK} (k : ∀ p F1 H1, Own K F0 H0 F1 H1 p ds → Same F F1 → Q (.ref p) H1) : tLst tr σ H Q := by
  refine h.go g.fh fun vs F1 H1 g1 r => ⟨by rw [r.len]; exact Nat.le_trans hz (by decide), fun p np => k p F1 _ ⟨(g.tr g1).newM np, (g.tr g1).dm p np, vs, upd_same, same_none g1.fh np, r⟩ g1.ff⟩
theorem q_own {F0 H0 : Hp} {i : Nat} (g : Gr [] F0 H0 F H) (h : EA K tr σ F H ds) (hz : ds.length ≤ 100000) (k : ∀ p F1 H1, Own K F0 H0 F1 H1 p ds → Same F F1 → tz D (σ.set i (some (.ref p))) H1) : tSeq (tAsg (tLst tr) (gName i)) tz D σ H := own_display (Q := fun v H1 => tz D (σ.set i (some v)) H1) g h hz k
theorem q_retOwn {F0 H0 : Hp} (g : Gr [] F0 H0 F H) (h : EA K tr σ F H ds) (hz : ds.length ≤ 100000) (k : ∀ p F1 H1, Own K F0 H0 F1 H1 p ds → Same F F1 → D.rt (.ref p) H1) : tRet (tLst tr) D σ H := own_display (Q := D.rt) g h hz k
/-- a def that gives a new list of data -/
def SpL (K : PySem.W.Frag) (A : List PyData → List PyData → Prop) : Sp := fun vs H Q _ => ∃ F ds es, Same F H ∧ RA K F vs ds ∧ A ds es ∧ ∀ p F1 H1, Own K F H F1 H1 p es → Q (.ref p) H1
theorem ed_callL {A : List PyData → List PyData → Prop} {E : XK} (h : EA K tr σ F H ds) (hc : A ds es) : ED K (tCall (SpL K A) [] E tr) σ F H (.list es) := fun F1 H1 g Q q =>
  h F1 H1 g _ fun vs F2 H2 g2 r => by
    rw [List.append_nil]
    refine ⟨F2, ds, es, g2.fh, r, hc, fun p F3 H3 o => ?_⟩
    obtain ⟨F4, g4, _, r4⟩ := o.still
    exact q (.ref p) F4 H3 (g2.tr g4) r4
theorem Own.dp {F0 H0 : Hp} {p : Addr} (o : Own K F0 H0 F H p es) : Dp K H (.ref p) (.list es) := by
  obtain ⟨acc, h1, h2, ra⟩ := o.ex
  exact .lst (.inl (.inl h1)) (RA.dp o.gr.fh es acc ra)
/-- x = f(..), f giving a new list -/
theorem q_setCallL {A : List PyData → List PyData → Prop} {E : XK} {F0 H0 : Hp} {i : Nat} (g0 : Gr [] F0 H0 F H) (h : EA K tr σ F H ds) (hc : A ds es) (k : ∀ p F1 H1, Own K F0 H0 F1 H1 p es → Gr [] F H F1 H1 → tz D (σ.set i (some (.ref p))) H1) : tSeq (tAsg (tCall (SpL K A) [] E tr) (gName i)) tz D σ H :=
  h.go g0.fh fun vs F2 H2 g2 r => by
    rw [List.append_nil]
    refine ⟨F2, ds, es, g2.fh, r, hc, fun p F3 H3 o => ?_⟩
    exact k p F3 H3 ⟨(g0.tr g2).tr o.gr, (g0.tr g2).dm p o.new, o.ex⟩ (g2.tr o.gr)
/-! ### sorted(set(xs)) of tuples of texts -/
theorem RA.strs : ∀ {vs : List V} {x : List Str}, RA K F vs (x.map .str) → vs = x.map V.str
  | _, [], .nil => rfl
  | _, a :: x, .cons h t => by rw [h.asStr, RA.strs t]; rfl
theorem RA.keys : ∀ {vs : List V} {ks : List (List Str)}, RA K F vs (ks.map SetK.encT) → ∃ kz : List (Addr × List Str), vs = kz.map (fun q => V.ref q.1) ∧ kz.map (·.2) = ks ∧ ∀ q ∈ kz, SqT K F q.1 (q.2.map V.str)
  | _, [], .nil => ⟨[], rfl, rfl, fun _ z => nomatch z⟩
  | _, x :: ks, .cons h t => by
    obtain ⟨a, xs, rfl, hs, ra⟩ := h.asTup
    obtain ⟨kz, e1, e2, e3⟩ := RA.keys t
    rw [ra.strs] at hs
    refine ⟨(a, x) :: kz, by rw [e1]; rfl, by rw [List.map_cons, e2], fun q hq => ?_⟩
    rcases List.mem_cons.mp hq with rfl | hq
    · exact hs
    · exact e3 q hq
theorem RA.ofKeys : ∀ (kz : List (Addr × List Str)), (∀ q ∈ kz, SqT K F q.1 (q.2.map V.str)) → RA K F (kz.map fun q => V.ref q.1) ((kz.map (·.2)).map SetK.encT)
  | [], _ => .nil
  | q :: kz, h => by
    refine .cons (.tup (h q List.mem_cons_self) ?_) (RA.ofKeys kz fun r hr => h r (List.mem_cons_of_mem _ hr))
    have key : ∀ x : List Str, RA K F (x.map V.str) (x.map .str) := by
      intro x
      induction x with
      | nil => exact .nil
      | cons a x ih => exact .cons (.str a) ih
    exact key q.2
theorem sset_wp {P : Program} {w : World} {F0 H0 : Hp} {i : Nat} {l : Addr} {acc : List V} {ks : List (List Str)} (g : Gr [] F0 H0 F H) (hi : σ[i]? = some (some (.ref l))) (hl : SqL K H l acc) (ra : RA K F acc (ks.map SetK.encT)) (few : SetK.FewS ks) (ne : ∀ x ∈ ks, x ≠ []) {Q : VK}
    (k : ∀ p F1 H1, Own K F0 H0 F1 H1 p ((SetK.sset ks).map SetK.encT) → Same F F1 → Gr [] F H F1 H1 → Q (.ref p) H1) : tCB (SetK.rSortedS K P w) (tCons (tCB (SetK.rSetS K P w) (tCons (tVar i) tNil)) tNil) σ H Q := by
  obtain ⟨kz, rfl, rfl, hk⟩ := ra.keys
  refine ⟨.ref l, hi, l, kz, rfl, hl, fun q hq => sqT_same g.fh (hk q hq), few, fun a L na sub all => ?_⟩
  have g1 : Gr [] F H F (upd H a (SetK.SetH P w a L)) := (Gr.refl g.fh).newM na
  refine ⟨a, L, rfl, upd_same, fun q hq => sqT_same g1.fh (hk q (sub q hq)), fun q hq => ne q.2 (List.mem_map.mpr ⟨q, sub q hq, rfl⟩), fun M p pm em np => ?_⟩
  have es : SetK.sset (L.map (·.2)) = SetK.sset (kz.map (·.2)) := SetK.sset_eq fun x => by
    constructor
    · intro h
      obtain ⟨q, hq, rfl⟩ := List.mem_map.mp h
      exact List.mem_map.mpr ⟨q, sub q hq, rfl⟩
    · intro h
      obtain ⟨q, hq, rfl⟩ := List.mem_map.mp h
      exact all q hq
  have g2 : Gr [] F H F (upd (upd H a (SetK.SetH P w a L)) p (.lst (M.map fun q => V.ref q.1))) := g1.newM np
  refine k p F _ ⟨g.tr g2, (g.tr g1).dm p np, _, upd_same, same_none g1.fh np, ?_⟩ (fun _ _ e => e) g2
  rw [← es, ← em]
  exact RA.ofKeys M fun q hq => hk q (sub q (pm.mem_iff.mp hq))
end
end Ly
/-! terms and sayings, with what is bound by numbers or by names: the mathematics. -/
namespace Tm
open PySem

inductive Lf where
  | name (x k : Str)
  | bound (n : Nat)
  | var (n : Nat)
  deriving DecidableEq
inductive Th where
  | lf (l : Lf)
  | made (f : Str) (ps : List Th)
  | bind (w k : Str) (a : Th)
  | nbind (w k : Str) (n : Nat) (a : Th)
  | node (w : Str) (ps : List Th)

def encL : Lf → PyData
  | .name x k => .tuple [.str "name", .str x, .str k]
  | .bound n => .tuple [.str "bound", .int n]
  | .var n => .tuple [.str "var", .int n]
mutual
def enc : Th → PyData
  | .lf l => encL l
  | .made f ps => .tuple [.str "made", .str f, .tuple (encs ps)]
  | .bind w k a => .tuple [.str w, .str k, enc a]
  | .nbind w k n a => .tuple [.str w, .str k, .int n, enc a]
  | .node w ps => .tuple (.str w :: encs ps)
def encs : List Th → List PyData
  | [] => []
  | t :: ts => enc t :: encs ts
end
theorem encs_map : ∀ ts : List Th, encs ts = ts.map enc
  | [] => rfl
  | t :: ts => by rw [encs, encs_map ts]; rfl
def Binder (w : Str) : Prop := w = "all" ∨ w = "some"
def Word (w : Str) : Prop := w = "same" ∨ w = "no" ∨ w = "not" ∨ w = "and" ∨ w = "or" ∨ w = "so"
abbrev So (x : Str) : Prop := PyData.strOk x = true
def LfOk : Lf → Prop
  | .name x k => So x ∧ So k
  | _ => True
/-- what is bound stands by its number (false), or by a name (true) -/
def LfIn : Bool → Lf → Prop
  | _, .name x k => True
  | v, .bound _ => v = false
  | v, .var _ => v = true
mutual
/-- well made, of at most so many steps down -/
inductive Ok (v : Bool) : Nat → Th → Prop
  | lf {n : Nat} {l : Lf} : LfOk l → LfIn v l → Ok v (n + 1) (.lf l)
  | made {n : Nat} {f : Str} {ps : List Th} : So f → ps.length ≤ 100 → Oks v n ps → Ok v (n + 1) (.made f ps)
  | bind {n : Nat} {w k : Str} {a : Th} : v = false → Binder w → So k → Ok v n a → Ok v (n + 1) (.bind w k a)
  | nbind {n : Nat} {w k : Str} {m : Nat} {a : Th} : v = true → Binder w → So k → Ok v n a → Ok v (n + 1) (.nbind w k m a)
  | node {n : Nat} {w : Str} {ps : List Th} : Word w → ps.length ≤ 100 → Oks v n ps → Ok v (n + 1) (.node w ps)
inductive Oks (v : Bool) : Nat → List Th → Prop
  | nil {n : Nat} : Oks v n []
  | cons {n : Nat} {t : Th} {ts : List Th} : Ok v n t → Oks v n ts → Oks v n (t :: ts)
end
theorem Oks.mem {v : Bool} {n : Nat} : ∀ {ts : List Th}, Oks v n ts → ∀ t ∈ ts, Ok v n t
  | _, .cons h r, t, m => by
    rcases List.mem_cons.mp m with rfl | m
    · exact h
    · exact r.mem t m
theorem Oks.of {v : Bool} {n : Nat} : ∀ {ts : List Th}, (∀ t ∈ ts, Ok v n t) → Oks v n ts
  | [], _ => .nil
  | t :: ts, h => .cons (h t List.mem_cons_self) (.of fun u m => h u (List.mem_cons_of_mem _ m))
mutual
theorem Ok.up {v : Bool} : ∀ {n m : Nat} {t : Th}, Ok v n t → n ≤ m → Ok v m t
  | n + 1, m + 1, _, .lf h k, _ => .lf h k
  | n + 1, m + 1, _, .made h k r, e => .made h k (Oks.up r (by omega))
  | n + 1, m + 1, _, .bind h i k r, e => .bind h i k (Ok.up r (by omega))
  | n + 1, m + 1, _, .nbind h i k r, e => .nbind h i k (Ok.up r (by omega))
  | n + 1, m + 1, _, .node h k r, e => .node h k (Oks.up r (by omega))
theorem Oks.up {v : Bool} : ∀ {n m : Nat} {t : List Th}, Oks v n t → n ≤ m → Oks v m t
  | _, _, _, .nil, _ => .nil
  | _, _, _, .cons h r, e => .cons (Ok.up h e) (Oks.up r e)
end
/-- its word, and what stands behind it -/
def hd : Th → Str
  | .lf (.name _ _) => "name"
  | .lf (.bound _) => "bound"
  | .lf (.var _) => "var"
  | .made _ _ => "made"
  | .bind w _ _ => w
  | .nbind w _ _ _ => w
  | .node w _ => w
def tl : Th → List PyData
  | .lf (.name x k) => [.str x, .str k]
  | .lf (.bound n) => [.int n]
  | .lf (.var n) => [.int n]
  | .made f ps => [.str f, .tuple (encs ps)]
  | .bind _ k a => [.str k, enc a]
  | .nbind _ k n a => [.str k, .int n, enc a]
  | .node _ ps => encs ps
theorem enc_eq (t : Th) : enc t = .tuple (.str (hd t) :: tl t) := by
  cases t with
  | lf l => cases l <;> rfl
  | made => rfl
  | bind => rfl
  | nbind => rfl
  | node => rfl
theorem So.binder {w : Str} (h : Binder w) : So w := by
  rcases h with rfl | rfl <;> decide +kernel
theorem So.word {w : Str} (h : Word w) : So w := by
  rcases h with rfl | rfl | rfl | rfl | rfl | rfl <;> decide +kernel
theorem lay_lf {l : Lf} (h : LfOk l) : (encL l).canLay0 = true ∧ (encL l).depth ≤ 1 := by
  cases l with
  | name x k =>
    obtain ⟨h1, h2⟩ := h
    have e : So "name" := by decide +kernel
    simp [encL, PyData.canLay0, PyData.canLayAll0, PyData.depth, PyData.depthAll, h1, h2, e]
  | bound n =>
    have e : So "bound" := by decide +kernel
    simp [encL, PyData.canLay0, PyData.canLayAll0, PyData.depth, PyData.depthAll, e]
  | var n =>
    have e : So "var" := by decide +kernel
    simp [encL, PyData.canLay0, PyData.canLayAll0, PyData.depth, PyData.depthAll, e]
mutual
theorem lay {v : Bool} : ∀ {n : Nat} {t : Th}, Ok v n t → (enc t).canLay0 = true ∧ (enc t).depth ≤ 2 * n
  | n + 1, _, .lf (l := l) h _ => by
    obtain ⟨a, b⟩ := lay_lf h
    exact ⟨a, by rw [enc]; omega⟩
  | n + 1, _, .made (f := f) h _ r => by
    obtain ⟨a, b⟩ := lays r
    have e : So "made" := by decide +kernel
    refine ⟨?_, ?_⟩
    · simp [enc, PyData.canLay0, PyData.canLayAll0, h, a, e]
    · simp only [enc, PyData.depth, PyData.depthAll]
      omega
  | n + 1, _, .bind _ h1 h2 r => by
    obtain ⟨a, b⟩ := lay r
    refine ⟨?_, ?_⟩
    · simp [enc, PyData.canLay0, PyData.canLayAll0, So.binder h1, h2, a]
    · simp only [enc, PyData.depth, PyData.depthAll]
      omega
  | n + 1, _, .nbind _ h1 h2 r => by
    obtain ⟨a, b⟩ := lay r
    refine ⟨?_, ?_⟩
    · simp [enc, PyData.canLay0, PyData.canLayAll0, So.binder h1, h2, a]
    · simp only [enc, PyData.depth, PyData.depthAll]
      omega
  | n + 1, _, .node h1 _ r => by
    obtain ⟨a, b⟩ := lays r
    refine ⟨?_, ?_⟩
    · simp [enc, PyData.canLay0, PyData.canLayAll0, So.word h1, a]
    · simp only [enc, PyData.depth, PyData.depthAll]
      omega
theorem lays {v : Bool} : ∀ {n : Nat} {ts : List Th}, Oks v n ts → PyData.canLayAll0 (encs ts) = true ∧ PyData.depthAll (encs ts) ≤ 2 * n
  | _, _, .nil => ⟨by simp [encs, PyData.canLayAll0], by simp [encs, PyData.depthAll]⟩
  | _, _, .cons h r => by
    obtain ⟨a, b⟩ := lay h
    obtain ⟨c, d⟩ := lays r
    refine ⟨?_, ?_⟩
    · simp [encs, PyData.canLayAll0, a, c]
    · simp only [encs, PyData.depthAll]
      omega
end
theorem shaped_ok {v : Bool} {n : Nat} {t : Th} (h : Ok v n t) (hn : n ≤ 30) : SeqAt.shaped (enc t) = true := by
  obtain ⟨a, b⟩ := lay h
  unfold SeqAt.shaped
  rw [a, Bool.true_and, decide_eq_true_eq]
  omega
theorem shaped_lf {l : Lf} (h : LfOk l) : SeqAt.shaped (encL l) = true := by
  obtain ⟨a, b⟩ := lay_lf h
  unfold SeqAt.shaped
  rw [a, Bool.true_and, decide_eq_true_eq]
  omega
/-- a thing and a leaf compared -/
def isLf (t : Th) (l : Lf) : Bool := match t with
  | .lf m => decide (m = l)
  | _ => false
theorem beq_str (x y : Str) : (x == y) = decide (x = y) := by
  by_cases e : x = y
  · subst e; simp
  · rw [decide_eq_false e]; simpa using e
theorem beq_nat (m n : Nat) : (((m : Nat) : Int) == ((n : Nat) : Int)) = decide (m = n) := by
  by_cases e : m = n
  · subst e; simp
  · rw [decide_eq_false e]
    simp only [beq_eq_false_iff_ne, ne_eq]
    omega
theorem eqv_lf {v : Bool} {n : Nat} {t : Th} (h : Ok v n t) (l : Lf) : PyData.eqv (enc t) (encL l) = isLf t l := by
  cases h with
  | lf h hi =>
    clear hi
    rename_i m
    rw [enc]
    cases m <;> cases l <;> simp [encL, isLf, PyData.eqv, PyData.eqvAll, beq_str, beq_nat]
    all_goals (intro e; exact absurd e (by decide +kernel))
  | made _ _ _ => cases l <;> simp [enc, encL, isLf, PyData.eqv, PyData.eqvAll] <;> (intro e; exact absurd e (by decide +kernel))
  | bind _ h1 _ _ =>
    rcases h1 with rfl | rfl <;> cases l <;> simp [enc, encL, isLf, PyData.eqv, PyData.eqvAll] <;> (intro e; exact absurd e (by decide +kernel))
  | nbind _ h1 _ _ =>
    rcases h1 with rfl | rfl <;> cases l <;> simp [enc, encL, isLf, PyData.eqv, PyData.eqvAll] <;> (intro e; exact absurd e (by decide +kernel))
  | node h1 _ _ =>
    rcases h1 with rfl | rfl | rfl | rfl | rfl | rfl <;> cases l <;> simp [enc, encL, isLf, PyData.eqv, PyData.eqvAll] <;> (intro e; exact absurd e (by decide +kernel))

theorem any2 (a b c : Str) : ([PyData.str a, .str b].any fun z => PyData.eqv z (.str c)) = (decide (a = c) || decide (b = c)) := by
  simp [PyData.eqv, beq_str]
def sortLf : Th → Bool
  | .lf _ => true
  | _ => false
def sortMade : Th → Bool
  | .made _ _ => true
  | _ => false
def sortBind : Th → Bool
  | .bind _ _ _ => true
  | .nbind _ _ _ _ => true
  | _ => false
def sortBound : Th → Bool
  | .lf (.bound _) => true
  | _ => false
def sortVar : Th → Bool
  | .lf (.var _) => true
  | _ => false
def sortName : Th → Bool
  | .lf (.name _ _) => true
  | _ => false
theorem tstLf {n : Nat} {t : Th} (h : Ok false n t) : ([PyData.str "name", .str "bound"].any fun z => PyData.eqv z (.str (hd t))) = sortLf t := by
  cases h with
  | @lf _ l _ hi =>
    cases l with
    | name x k => show ([PyData.str "name", .str "bound"].any fun z => PyData.eqv z (.str ("name" : Str))) = true; decide +kernel
    | bound m => show ([PyData.str "name", .str "bound"].any fun z => PyData.eqv z (.str ("bound" : Str))) = true; decide +kernel
    | var m => cases hi
  | made _ _ _ => show ([PyData.str "name", .str "bound"].any fun z => PyData.eqv z (.str ("made" : Str))) = false; decide +kernel
  | bind _ h1 _ _ =>
    rcases h1 with rfl | rfl
    · show ([PyData.str "name", .str "bound"].any fun z => PyData.eqv z (.str ("all" : Str))) = false; decide +kernel
    · show ([PyData.str "name", .str "bound"].any fun z => PyData.eqv z (.str ("some" : Str))) = false; decide +kernel
  | nbind hv _ _ _ => cases hv
  | node h1 _ _ =>
    rcases h1 with rfl | rfl | rfl | rfl | rfl | rfl
    · show ([PyData.str "name", .str "bound"].any fun z => PyData.eqv z (.str ("same" : Str))) = false; decide +kernel
    · show ([PyData.str "name", .str "bound"].any fun z => PyData.eqv z (.str ("no" : Str))) = false; decide +kernel
    · show ([PyData.str "name", .str "bound"].any fun z => PyData.eqv z (.str ("not" : Str))) = false; decide +kernel
    · show ([PyData.str "name", .str "bound"].any fun z => PyData.eqv z (.str ("and" : Str))) = false; decide +kernel
    · show ([PyData.str "name", .str "bound"].any fun z => PyData.eqv z (.str ("or" : Str))) = false; decide +kernel
    · show ([PyData.str "name", .str "bound"].any fun z => PyData.eqv z (.str ("so" : Str))) = false; decide +kernel
theorem tstMade {n : Nat} {t : Th} (h : Ok false n t) : decide ((hd t) = ("made" : Str)) = sortMade t := by
  cases h with
  | @lf _ l _ hi =>
    cases l with
    | name x k => show decide (("name" : Str) = ("made" : Str)) = false; decide +kernel
    | bound m => show decide (("bound" : Str) = ("made" : Str)) = false; decide +kernel
    | var m => cases hi
  | made _ _ _ => show decide (("made" : Str) = ("made" : Str)) = true; decide +kernel
  | bind _ h1 _ _ =>
    rcases h1 with rfl | rfl
    · show decide (("all" : Str) = ("made" : Str)) = false; decide +kernel
    · show decide (("some" : Str) = ("made" : Str)) = false; decide +kernel
  | nbind hv _ _ _ => cases hv
  | node h1 _ _ =>
    rcases h1 with rfl | rfl | rfl | rfl | rfl | rfl
    · show decide (("same" : Str) = ("made" : Str)) = false; decide +kernel
    · show decide (("no" : Str) = ("made" : Str)) = false; decide +kernel
    · show decide (("not" : Str) = ("made" : Str)) = false; decide +kernel
    · show decide (("and" : Str) = ("made" : Str)) = false; decide +kernel
    · show decide (("or" : Str) = ("made" : Str)) = false; decide +kernel
    · show decide (("so" : Str) = ("made" : Str)) = false; decide +kernel
theorem tstMadeN {n : Nat} {t : Th} (h : Ok true n t) : decide ((hd t) = ("made" : Str)) = sortMade t := by
  cases h with
  | @lf _ l _ hi =>
    cases l with
    | name x k => show decide (("name" : Str) = ("made" : Str)) = false; decide +kernel
    | bound m => cases hi
    | var m => show decide (("var" : Str) = ("made" : Str)) = false; decide +kernel
  | made _ _ _ => show decide (("made" : Str) = ("made" : Str)) = true; decide +kernel
  | bind hv _ _ _ => cases hv
  | nbind _ h1 _ _ =>
    rcases h1 with rfl | rfl
    · show decide (("all" : Str) = ("made" : Str)) = false; decide +kernel
    · show decide (("some" : Str) = ("made" : Str)) = false; decide +kernel
  | node h1 _ _ =>
    rcases h1 with rfl | rfl | rfl | rfl | rfl | rfl
    · show decide (("same" : Str) = ("made" : Str)) = false; decide +kernel
    · show decide (("no" : Str) = ("made" : Str)) = false; decide +kernel
    · show decide (("not" : Str) = ("made" : Str)) = false; decide +kernel
    · show decide (("and" : Str) = ("made" : Str)) = false; decide +kernel
    · show decide (("or" : Str) = ("made" : Str)) = false; decide +kernel
    · show decide (("so" : Str) = ("made" : Str)) = false; decide +kernel
theorem tstBind {n : Nat} {t : Th} (h : Ok false n t) : ([PyData.str "all", .str "some"].any fun z => PyData.eqv z (.str (hd t))) = sortBind t := by
  cases h with
  | @lf _ l _ hi =>
    cases l with
    | name x k => show ([PyData.str "all", .str "some"].any fun z => PyData.eqv z (.str ("name" : Str))) = false; decide +kernel
    | bound m => show ([PyData.str "all", .str "some"].any fun z => PyData.eqv z (.str ("bound" : Str))) = false; decide +kernel
    | var m => cases hi
  | made _ _ _ => show ([PyData.str "all", .str "some"].any fun z => PyData.eqv z (.str ("made" : Str))) = false; decide +kernel
  | bind _ h1 _ _ =>
    rcases h1 with rfl | rfl
    · show ([PyData.str "all", .str "some"].any fun z => PyData.eqv z (.str ("all" : Str))) = true; decide +kernel
    · show ([PyData.str "all", .str "some"].any fun z => PyData.eqv z (.str ("some" : Str))) = true; decide +kernel
  | nbind hv _ _ _ => cases hv
  | node h1 _ _ =>
    rcases h1 with rfl | rfl | rfl | rfl | rfl | rfl
    · show ([PyData.str "all", .str "some"].any fun z => PyData.eqv z (.str ("same" : Str))) = false; decide +kernel
    · show ([PyData.str "all", .str "some"].any fun z => PyData.eqv z (.str ("no" : Str))) = false; decide +kernel
    · show ([PyData.str "all", .str "some"].any fun z => PyData.eqv z (.str ("not" : Str))) = false; decide +kernel
    · show ([PyData.str "all", .str "some"].any fun z => PyData.eqv z (.str ("and" : Str))) = false; decide +kernel
    · show ([PyData.str "all", .str "some"].any fun z => PyData.eqv z (.str ("or" : Str))) = false; decide +kernel
    · show ([PyData.str "all", .str "some"].any fun z => PyData.eqv z (.str ("so" : Str))) = false; decide +kernel
theorem tstBindN {n : Nat} {t : Th} (h : Ok true n t) : ([PyData.str "all", .str "some"].any fun z => PyData.eqv z (.str (hd t))) = sortBind t := by
  cases h with
  | @lf _ l _ hi =>
    cases l with
    | name x k => show ([PyData.str "all", .str "some"].any fun z => PyData.eqv z (.str ("name" : Str))) = false; decide +kernel
    | bound m => cases hi
    | var m => show ([PyData.str "all", .str "some"].any fun z => PyData.eqv z (.str ("var" : Str))) = false; decide +kernel
  | made _ _ _ => show ([PyData.str "all", .str "some"].any fun z => PyData.eqv z (.str ("made" : Str))) = false; decide +kernel
  | bind hv _ _ _ => cases hv
  | nbind _ h1 _ _ =>
    rcases h1 with rfl | rfl
    · show ([PyData.str "all", .str "some"].any fun z => PyData.eqv z (.str ("all" : Str))) = true; decide +kernel
    · show ([PyData.str "all", .str "some"].any fun z => PyData.eqv z (.str ("some" : Str))) = true; decide +kernel
  | node h1 _ _ =>
    rcases h1 with rfl | rfl | rfl | rfl | rfl | rfl
    · show ([PyData.str "all", .str "some"].any fun z => PyData.eqv z (.str ("same" : Str))) = false; decide +kernel
    · show ([PyData.str "all", .str "some"].any fun z => PyData.eqv z (.str ("no" : Str))) = false; decide +kernel
    · show ([PyData.str "all", .str "some"].any fun z => PyData.eqv z (.str ("not" : Str))) = false; decide +kernel
    · show ([PyData.str "all", .str "some"].any fun z => PyData.eqv z (.str ("and" : Str))) = false; decide +kernel
    · show ([PyData.str "all", .str "some"].any fun z => PyData.eqv z (.str ("or" : Str))) = false; decide +kernel
    · show ([PyData.str "all", .str "some"].any fun z => PyData.eqv z (.str ("so" : Str))) = false; decide +kernel
theorem tstLfN {n : Nat} {t : Th} (h : Ok true n t) : ([PyData.str "var", .str "name"].any fun z => PyData.eqv z (.str (hd t))) = sortLf t := by
  cases h with
  | @lf _ l _ hi =>
    cases l with
    | name x k => show ([PyData.str "var", .str "name"].any fun z => PyData.eqv z (.str ("name" : Str))) = true; decide +kernel
    | bound m => cases hi
    | var m => show ([PyData.str "var", .str "name"].any fun z => PyData.eqv z (.str ("var" : Str))) = true; decide +kernel
  | made _ _ _ => show ([PyData.str "var", .str "name"].any fun z => PyData.eqv z (.str ("made" : Str))) = false; decide +kernel
  | bind hv _ _ _ => cases hv
  | nbind _ h1 _ _ =>
    rcases h1 with rfl | rfl
    · show ([PyData.str "var", .str "name"].any fun z => PyData.eqv z (.str ("all" : Str))) = false; decide +kernel
    · show ([PyData.str "var", .str "name"].any fun z => PyData.eqv z (.str ("some" : Str))) = false; decide +kernel
  | node h1 _ _ =>
    rcases h1 with rfl | rfl | rfl | rfl | rfl | rfl
    · show ([PyData.str "var", .str "name"].any fun z => PyData.eqv z (.str ("same" : Str))) = false; decide +kernel
    · show ([PyData.str "var", .str "name"].any fun z => PyData.eqv z (.str ("no" : Str))) = false; decide +kernel
    · show ([PyData.str "var", .str "name"].any fun z => PyData.eqv z (.str ("not" : Str))) = false; decide +kernel
    · show ([PyData.str "var", .str "name"].any fun z => PyData.eqv z (.str ("and" : Str))) = false; decide +kernel
    · show ([PyData.str "var", .str "name"].any fun z => PyData.eqv z (.str ("or" : Str))) = false; decide +kernel
    · show ([PyData.str "var", .str "name"].any fun z => PyData.eqv z (.str ("so" : Str))) = false; decide +kernel
theorem tstBound {n : Nat} {t : Th} (h : Ok false n t) : decide ((hd t) = ("bound" : Str)) = sortBound t := by
  cases h with
  | @lf _ l _ hi =>
    cases l with
    | name x k => show decide (("name" : Str) = ("bound" : Str)) = false; decide +kernel
    | bound m => show decide (("bound" : Str) = ("bound" : Str)) = true; decide +kernel
    | var m => cases hi
  | made _ _ _ => show decide (("made" : Str) = ("bound" : Str)) = false; decide +kernel
  | bind _ h1 _ _ =>
    rcases h1 with rfl | rfl
    · show decide (("all" : Str) = ("bound" : Str)) = false; decide +kernel
    · show decide (("some" : Str) = ("bound" : Str)) = false; decide +kernel
  | nbind hv _ _ _ => cases hv
  | node h1 _ _ =>
    rcases h1 with rfl | rfl | rfl | rfl | rfl | rfl
    · show decide (("same" : Str) = ("bound" : Str)) = false; decide +kernel
    · show decide (("no" : Str) = ("bound" : Str)) = false; decide +kernel
    · show decide (("not" : Str) = ("bound" : Str)) = false; decide +kernel
    · show decide (("and" : Str) = ("bound" : Str)) = false; decide +kernel
    · show decide (("or" : Str) = ("bound" : Str)) = false; decide +kernel
    · show decide (("so" : Str) = ("bound" : Str)) = false; decide +kernel
theorem tstName {n : Nat} {t : Th} (h : Ok false n t) : decide ((hd t) = ("name" : Str)) = sortName t := by
  cases h with
  | @lf _ l _ hi =>
    cases l with
    | name x k => show decide (("name" : Str) = ("name" : Str)) = true; decide +kernel
    | bound m => show decide (("bound" : Str) = ("name" : Str)) = false; decide +kernel
    | var m => cases hi
  | made _ _ _ => show decide (("made" : Str) = ("name" : Str)) = false; decide +kernel
  | bind _ h1 _ _ =>
    rcases h1 with rfl | rfl
    · show decide (("all" : Str) = ("name" : Str)) = false; decide +kernel
    · show decide (("some" : Str) = ("name" : Str)) = false; decide +kernel
  | nbind hv _ _ _ => cases hv
  | node h1 _ _ =>
    rcases h1 with rfl | rfl | rfl | rfl | rfl | rfl
    · show decide (("same" : Str) = ("name" : Str)) = false; decide +kernel
    · show decide (("no" : Str) = ("name" : Str)) = false; decide +kernel
    · show decide (("not" : Str) = ("name" : Str)) = false; decide +kernel
    · show decide (("and" : Str) = ("name" : Str)) = false; decide +kernel
    · show decide (("or" : Str) = ("name" : Str)) = false; decide +kernel
    · show decide (("so" : Str) = ("name" : Str)) = false; decide +kernel
theorem tstVar {n : Nat} {t : Th} (h : Ok true n t) : decide ((hd t) = ("var" : Str)) = sortVar t := by
  cases h with
  | @lf _ l _ hi =>
    cases l with
    | name x k => show decide (("name" : Str) = ("var" : Str)) = false; decide +kernel
    | bound m => cases hi
    | var m => show decide (("var" : Str) = ("var" : Str)) = true; decide +kernel
  | made _ _ _ => show decide (("made" : Str) = ("var" : Str)) = false; decide +kernel
  | bind hv _ _ _ => cases hv
  | nbind _ h1 _ _ =>
    rcases h1 with rfl | rfl
    · show decide (("all" : Str) = ("var" : Str)) = false; decide +kernel
    · show decide (("some" : Str) = ("var" : Str)) = false; decide +kernel
  | node h1 _ _ =>
    rcases h1 with rfl | rfl | rfl | rfl | rfl | rfl
    · show decide (("same" : Str) = ("var" : Str)) = false; decide +kernel
    · show decide (("no" : Str) = ("var" : Str)) = false; decide +kernel
    · show decide (("not" : Str) = ("var" : Str)) = false; decide +kernel
    · show decide (("and" : Str) = ("var" : Str)) = false; decide +kernel
    · show decide (("or" : Str) = ("var" : Str)) = false; decide +kernel
    · show decide (("so" : Str) = ("var" : Str)) = false; decide +kernel
theorem tstNameN {n : Nat} {t : Th} (h : Ok true n t) : decide ((hd t) = ("name" : Str)) = sortName t := by
  cases h with
  | @lf _ l _ hi =>
    cases l with
    | name x k => show decide (("name" : Str) = ("name" : Str)) = true; decide +kernel
    | bound m => cases hi
    | var m => show decide (("var" : Str) = ("name" : Str)) = false; decide +kernel
  | made _ _ _ => show decide (("made" : Str) = ("name" : Str)) = false; decide +kernel
  | bind hv _ _ _ => cases hv
  | nbind _ h1 _ _ =>
    rcases h1 with rfl | rfl
    · show decide (("all" : Str) = ("name" : Str)) = false; decide +kernel
    · show decide (("some" : Str) = ("name" : Str)) = false; decide +kernel
  | node h1 _ _ =>
    rcases h1 with rfl | rfl | rfl | rfl | rfl | rfl
    · show decide (("same" : Str) = ("name" : Str)) = false; decide +kernel
    · show decide (("no" : Str) = ("name" : Str)) = false; decide +kernel
    · show decide (("not" : Str) = ("name" : Str)) = false; decide +kernel
    · show decide (("and" : Str) = ("name" : Str)) = false; decide +kernel
    · show decide (("or" : Str) = ("name" : Str)) = false; decide +kernel
    · show decide (("so" : Str) = ("name" : Str)) = false; decide +kernel
/-! ### exchanged -/
mutual
def exch (o : Option Lf) (b : Option Th) (k : Nat) : Th → Th
  | .lf l => if l = o.getD (.bound k) then b.getD (.lf (.bound k)) else .lf l
  | .made f ps => .made f (exchs o b k ps)
  | .bind w q a => .bind w q (exch o b (k + 1) a)
  | .nbind w q n a => .nbind w q n a
  | .node w ps => .node w (exchs o b k ps)
def exchs (o : Option Lf) (b : Option Th) (k : Nat) : List Th → List Th
  | [] => []
  | t :: ts => exch o b k t :: exchs o b k ts
end
theorem exchs_map (o : Option Lf) (b : Option Th) (k : Nat) : ∀ ts : List Th, exchs o b k ts = ts.map (exch o b k)
  | [] => rfl
  | t :: ts => by rw [exchs, exchs_map o b k ts]; rfl
mutual
def lexch (o : Lf) (b : Th) : Th → Th
  | .lf l => if l = o then b else .lf l
  | .made f ps => .made f (lexchs o b ps)
  | .bind w q a => .bind w q a
  | .nbind w q n a => .nbind w q n (lexch o b a)
  | .node w ps => .node w (lexchs o b ps)
def lexchs (o : Lf) (b : Th) : List Th → List Th
  | [] => []
  | t :: ts => lexch o b t :: lexchs o b ts
end
theorem lexchs_map (o : Lf) (b : Th) : ∀ ts : List Th, lexchs o b ts = ts.map (lexch o b)
  | [] => rfl
  | t :: ts => by rw [lexchs, lexchs_map o b ts]; rfl
mutual
def named (ar : List Nat) : Th → Th
  | .lf (.bound n) => .lf (.var (ar.getD n 0))
  | .lf l => .lf l
  | .made f ps => .made f (nameds ar ps)
  | .bind w q a => .nbind w q ar.length (named (ar.length :: ar) a)
  | .nbind w q n a => .nbind w q n a
  | .node w ps => .node w (nameds ar ps)
def nameds (ar : List Nat) : List Th → List Th
  | [] => []
  | t :: ts => named ar t :: nameds ar ts
end
theorem nameds_map (ar : List Nat) : ∀ ts : List Th, nameds ar ts = ts.map (named ar)
  | [] => rfl
  | t :: ts => by rw [nameds, nameds_map ar ts]; rfl
mutual
def unnamed (ar : List Nat) : Th → Th
  | .lf (.var n) => .lf (.bound (ar.idxOf n))
  | .lf l => .lf l
  | .made f ps => .made f (unnameds ar ps)
  | .bind w q a => .bind w q a
  | .nbind w q n a => .bind w q (unnamed (n :: ar) a)
  | .node w ps => .node w (unnameds ar ps)
def unnameds (ar : List Nat) : List Th → List Th
  | [] => []
  | t :: ts => unnamed ar t :: unnameds ar ts
end
theorem unnameds_map (ar : List Nat) : ∀ ts : List Th, unnameds ar ts = ts.map (unnamed ar)
  | [] => rfl
  | t :: ts => by rw [unnameds, unnameds_map ar ts]; rfl

/-! ### names -/
mutual
def names : Th → List (List Str)
  | .lf (.name x k) => [[x, k]]
  | .lf _ => []
  | .made _ ps => namess ps
  | .bind _ _ a => names a
  | .nbind _ _ _ a => names a
  | .node _ ps => namess ps
def namess : List Th → List (List Str)
  | [] => []
  | t :: ts => names t ++ namess ts
end
theorem namess_app : ∀ ts us : List Th, namess (ts ++ us) = namess ts ++ namess us
  | [], us => rfl
  | t :: ts, us => by rw [List.cons_append, namess, namess, namess_app ts us, List.append_assoc]
mutual
/-- how many leaves at most -/
def wt : Th → Nat
  | .lf _ => 1
  | .made _ ps => wts ps
  | .bind _ _ a => wt a
  | .nbind _ _ _ a => wt a
  | .node _ ps => wts ps
def wts : List Th → Nat
  | [] => 0
  | t :: ts => wt t + wts ts
end
mutual
theorem names_len : ∀ t : Th, (names t).length ≤ wt t
  | .lf (.name x k) => Nat.le_refl 1
  | .lf (.bound _) => Nat.zero_le _
  | .lf (.var _) => Nat.zero_le _
  | .made _ ps => namess_len ps
  | .bind _ _ a => names_len a
  | .nbind _ _ _ a => names_len a
  | .node _ ps => namess_len ps
theorem namess_len : ∀ ts : List Th, (namess ts).length ≤ wts ts
  | [] => Nat.le_refl 0
  | t :: ts => by
    rw [namess, List.length_append, wts]
    have h1 := names_len t
    have h2 := namess_len ts
    omega
end
theorem wts_take : ∀ (ts : List Th) (i : Nat), wts (ts.take i) ≤ wts ts
  | [], i => by simp
  | t :: ts, 0 => Nat.zero_le _
  | t :: ts, i + 1 => by
    rw [List.take_succ_cons, wts, wts]
    have := wts_take ts i
    omega
theorem wts_app : ∀ ts us : List Th, wts (ts ++ us) = wts ts + wts us
  | [], us => by rw [List.nil_append, wts]; omega
  | t :: ts, us => by rw [List.cons_append, wts, wts, wts_app ts us]; omega
theorem wt_mem : ∀ {ts : List Th} {t : Th}, t ∈ ts → wt t ≤ wts ts
  | u :: ts, t, h => by
    rw [wts]
    rcases List.mem_cons.mp h with rfl | h
    · omega
    · have := wt_mem h
      omega
/-! ### what stands in a thing -/
mutual
/-- no named ones; all bound ones below m -/
inductive Cl : Nat → Th → Prop
  | name {m : Nat} (x k : Str) : Cl m (.lf (.name x k))
  | bound {m n : Nat} : n < m → Cl m (.lf (.bound n))
  | made {m : Nat} {f : Str} {ps : List Th} : Cls m ps → Cl m (.made f ps)
  | bind {m : Nat} {w k : Str} {a : Th} : Cl (m + 1) a → Cl m (.bind w k a)
  | node {m : Nat} {w : Str} {ps : List Th} : Cls m ps → Cl m (.node w ps)
inductive Cls : Nat → List Th → Prop
  | nil {m : Nat} : Cls m []
  | cons {m : Nat} {t : Th} {ts : List Th} : Cl m t → Cls m ts → Cls m (t :: ts)
end
mutual
/-- no bound and no named ones at all -/
inductive Tc : Th → Prop
  | name (x k : Str) : Tc (.lf (.name x k))
  | made {f : Str} {ps : List Th} : Tcs ps → Tc (.made f ps)
inductive Tcs : List Th → Prop
  | nil : Tcs []
  | cons {t : Th} {ts : List Th} : Tc t → Tcs ts → Tcs (t :: ts)
end
/-- m, m - 1, .. 1, and what stands behind -/
def down (z : List Nat) : Nat → List Nat
  | 0 => z
  | m + 1 => (z.length + m) :: down z m
theorem down_len (z : List Nat) : ∀ m, (down z m).length = z.length + m
  | 0 => rfl
  | m + 1 => by rw [down, List.length_cons, down_len z m]; omega
/-- around [m, .., 1, 0] -/
def dn (m : Nat) : List Nat := down [0] m
theorem dn_len (m : Nat) : (dn m).length = m + 1 := by rw [dn, down_len]; show 1 + m = m + 1; omega
theorem dn_succ (m : Nat) : dn (m + 1) = (m + 1) :: dn m := by
  show ([0].length + m) :: down [0] m = _
  rw [show ([0] : List Nat).length + m = m + 1 by show 1 + m = m + 1; omega]
  rfl
theorem dn_get : ∀ m i, i ≤ m → (dn m).getD i 0 = m - i
  | 0, 0, _ => rfl
  | m + 1, 0, _ => by rw [dn_succ]; rfl
  | m + 1, i + 1, h => by
    rw [dn_succ, List.getD_cons_succ, dn_get m i (by omega)]
    omega
/-- [m, .., 1] -/
def up1 : Nat → List Nat
  | 0 => []
  | m + 1 => (m + 1) :: up1 m
theorem up1_idx : ∀ m j, 1 ≤ j → j ≤ m → (up1 m).idxOf j = m - j
  | 0, j, h, k => by omega
  | m + 1, j, h, k => by
    rw [up1, List.idxOf_cons]
    by_cases e : m + 1 = j
    · subst e; simp
    · rw [show (m + 1 == j) = false by simpa using e, cond_false, up1_idx m j h (by omega)]
      omega
theorem dn_idx : ∀ m j, j ≤ m → (dn m).idxOf j = m - j
  | 0, j, k => by
    have : j = 0 := by omega
    subst this
    rfl
  | m + 1, j, k => by
    rw [dn_succ, List.idxOf_cons]
    by_cases e : m + 1 = j
    · subst e; simp
    · rw [show (m + 1 == j) = false by simpa using e, cond_false, dn_idx m j (by omega)]
      omega
mutual
theorem unnamed_tc (ar : List Nat) : ∀ {t : Th}, Tc t → unnamed ar t = t
  | _, .name x k => rfl
  | _, .made h => by rw [unnamed, unnameds_tc ar h]
theorem unnameds_tc (ar : List Nat) : ∀ {ts : List Th}, Tcs ts → unnameds ar ts = ts
  | _, .nil => rfl
  | _, .cons h r => by rw [unnameds, unnamed_tc ar h, unnameds_tc ar r]
end
mutual
/-- opened -/
theorem open_eq {T : Th} (hT : Tc T) : ∀ (m : Nat) (t : Th), Cl (m + 1) t → exch none (some T) m t = unnamed (up1 m) (lexch (.var 0) T (named (dn m) t))
  | m, _, .name x k => by
    show exch none (some T) m (.lf (.name x k)) = unnamed (up1 m) (lexch (.var 0) T (.lf (.name x k)))
    simp [exch, lexch, unnamed]
  | m, _, .bound (n := n) h => by
    show exch none (some T) m (.lf (.bound n)) = unnamed (up1 m) (lexch (.var 0) T (.lf (.var ((dn m).getD n 0))))
    rw [dn_get m n (by omega)]
    by_cases e : n = m
    · subst e
      simp only [exch, lexch, Nat.sub_self, Option.getD_some, Option.getD_none, if_true]
      exact (unnamed_tc _ hT).symm
    · rw [exch, if_neg (by simpa using e), lexch, if_neg (by simp; omega), unnamed, up1_idx m (m - n) (by omega) (by omega)]
      rw [show m - (m - n) = n by omega]
  | m, _, .made h => by rw [exch, named, lexch, unnamed, opens_eq hT m _ h]
  | m, _, .bind (w := w) (k := k) (a := a) h => by
    rw [exch, named, lexch, unnamed, open_eq hT (m + 1) _ h, dn_len, dn_succ]
    rfl
  | m, _, .node h => by rw [exch, named, lexch, unnamed, opens_eq hT m _ h]
theorem opens_eq {T : Th} (hT : Tc T) : ∀ (m : Nat) (ts : List Th), Cls (m + 1) ts → exchs none (some T) m ts = unnameds (up1 m) (lexchs (.var 0) T (nameds (dn m) ts))
  | m, _, .nil => rfl
  | m, _, .cons h r => by rw [exchs, nameds, lexchs, unnameds, open_eq hT m _ h, opens_eq hT m _ r]
end
mutual
/-- shut -/
theorem shut_eq (x k : Str) : ∀ (m : Nat) (t : Th), Cl m t → exch (some (.name x k)) none m t = unnamed (dn m) (lexch (.name x k) (.lf (.var 0)) (named (dn m) t))
  | m, _, .name y l => by
    show exch _ none m (.lf (.name y l)) = unnamed (dn m) (lexch _ _ (.lf (.name y l)))
    rw [exch, lexch]
    show (if Lf.name y l = Lf.name x k then (none : Option Th).getD (.lf (.bound m)) else _) = _
    by_cases e : Lf.name y l = Lf.name x k
    · rw [if_pos e, if_pos e, unnamed, dn_idx m 0 (Nat.zero_le _)]
      rfl
    · rw [if_neg e, if_neg e]
      rfl
  | m, _, .bound (n := n) h => by
    show exch _ none m (.lf (.bound n)) = unnamed (dn m) (lexch _ _ (.lf (.var ((dn m).getD n 0))))
    rw [dn_get m n (by omega), exch, lexch]
    show (if Lf.bound n = Lf.name x k then _ else _) = _
    rw [if_neg (by simp), if_neg (by simp), unnamed, dn_idx m (m - n) (by omega), show m - (m - n) = n by omega]
  | m, _, .made h => by rw [exch, named, lexch, unnamed, shuts_eq x k m _ h]
  | m, _, .bind h => by
    rw [exch, named, lexch, unnamed, shut_eq x k (m + 1) _ h, dn_len, dn_succ]
  | m, _, .node h => by rw [exch, named, lexch, unnamed, shuts_eq x k m _ h]
theorem shuts_eq (x k : Str) : ∀ (m : Nat) (ts : List Th), Cls m ts → exchs (some (.name x k)) none m ts = unnameds (dn m) (lexchs (.name x k) (.lf (.var 0)) (nameds (dn m) ts))
  | m, _, .nil => rfl
  | m, _, .cons h r => by rw [exchs, nameds, lexchs, unnameds, shut_eq x k m _ h, shuts_eq x k m _ r]
end
mutual
/-- put in -/
theorem put_eq (x k : Str) {T : Th} (hT : Tc T) : ∀ (m : Nat) (t : Th), Cl m t → exch (some (.name x k)) (some T) m t = unnamed (dn m) (lexch (.name x k) T (named (dn m) t))
  | m, _, .name y l => by
    show exch _ _ m (.lf (.name y l)) = unnamed (dn m) (lexch _ _ (.lf (.name y l)))
    rw [exch, lexch]
    show (if Lf.name y l = Lf.name x k then (some T).getD (.lf (.bound m)) else _) = _
    by_cases e : Lf.name y l = Lf.name x k
    · rw [if_pos e, if_pos e, unnamed_tc _ hT]
      rfl
    · rw [if_neg e, if_neg e]
      rfl
  | m, _, .bound (n := n) h => by
    show exch _ _ m (.lf (.bound n)) = unnamed (dn m) (lexch _ _ (.lf (.var ((dn m).getD n 0))))
    rw [dn_get m n (by omega), exch, lexch]
    show (if Lf.bound n = Lf.name x k then _ else _) = _
    rw [if_neg (by simp), if_neg (by simp), unnamed, dn_idx m (m - n) (by omega), show m - (m - n) = n by omega]
  | m, _, .made h => by rw [exch, named, lexch, unnamed, puts_eq x k hT m _ h]
  | m, _, .bind h => by
    rw [exch, named, lexch, unnamed, put_eq x k hT (m + 1) _ h, dn_len, dn_succ]
  | m, _, .node h => by rw [exch, named, lexch, unnamed, puts_eq x k hT m _ h]
theorem puts_eq (x k : Str) {T : Th} (hT : Tc T) : ∀ (m : Nat) (ts : List Th), Cls m ts → exchs (some (.name x k)) (some T) m ts = unnameds (dn m) (lexchs (.name x k) T (nameds (dn m) ts))
  | m, _, .nil => rfl
  | m, _, .cons h r => by rw [exchs, nameds, lexchs, unnameds, put_eq x k hT m _ h, puts_eq x k hT m _ r]
end
mutual
/-- a name that stands nowhere -/
inductive No (x : Str) : Th → Prop
  | name {y k : Str} : y ≠ x → No x (.lf (.name y k))
  | bound {n : Nat} : No x (.lf (.bound n))
  | made {f : Str} {ps : List Th} : Nos x ps → No x (.made f ps)
  | bind {w k : Str} {a : Th} : No x a → No x (.bind w k a)
  | node {w : Str} {ps : List Th} : Nos x ps → No x (.node w ps)
inductive Nos (x : Str) : List Th → Prop
  | nil : Nos x []
  | cons {t : Th} {ts : List Th} : No x t → Nos x ts → Nos x (t :: ts)
end
mutual
theorem round_eq (x k : Str) : ∀ (m : Nat) (t : Th), No x t → exch (some (.name x k)) none m (exch none (some (.lf (.name x k))) m t) = t
  | m, _, .name (y := y) (k := l) h => by
    rw [exch, if_neg (by simp), exch, if_neg (by simp [h])]
  | m, _, .bound (n := n) => by
    by_cases e : n = m
    · subst e; simp [exch]
    · simp [exch, e]
  | m, _, .made h => by rw [exch, exch, rounds_eq x k m _ h]
  | m, _, .bind h => by rw [exch, exch, round_eq x k (m + 1) _ h]
  | m, _, .node h => by rw [exch, exch, rounds_eq x k m _ h]
theorem rounds_eq (x k : Str) : ∀ (m : Nat) (ts : List Th), Nos x ts → exchs (some (.name x k)) none m (exchs none (some (.lf (.name x k))) m ts) = ts
  | m, _, .nil => rfl
  | m, _, .cons h r => by rw [exchs, exchs, round_eq x k m _ h, rounds_eq x k m _ r]
end
end Tm
namespace Wk
open PySem PySem.Spec PyProof.Rows L2 Ly Tm
def topS (i : Nat) : Stmt := PySem.Challenge.pw_goalsmith_k32_opened_and_shut.main.body.getD i (.Pass ⟨0, 0, 0, 0⟩)
/-- a def as the top left it -/
structure Df (K : PySem.W.Frag) (mg : Str → Option Value) (x : Str) (st : Stmt) (ps : List Str) (f : Addr) (fd : FuncData) : Prop where
  F : Fun K x x st f fd
  g : mg x = some (.ref f)
  b : Binds K fd ps []
abbrev sExch : Stmt := topS 2
theorem scExch : FnScope ["thing", "what", "by", "deep", "old", "new", "part"] ["thing", "what", "by", "deep"] (defScope sExch) := ⟨rfl, rfl, rfl, by decide +kernel, rfl, by decide +kernel, by decide +kernel⟩
def tExch5 (K : PySem.W.Frag) (sp : Sp) (aB : Addr) : TS :=
  (tSeq (tIfS (tTest (tOp (rEqD K) (tVar 0) (tVar 4))) (tRet (tVar 5)) tNext)
  (tSeq (tIfS (tTest (tOp (rIn K false) (tOp (rIxT K) (tVar 0) (tC (.int 0))) (tTup (tCons (tC (.str "name")) (tCons (tC (.str "bound")) tNil))))) (tRet (tVar 0)) tNext)
  (tSeq (tIfS (tTest (tOp rEq (tOp (rIxT K) (tVar 0) (tC (.int 0))) (tC (.str "made")))) (tRet (tTup (tCons (tC (.str "made")) (tCons (tOp (rIxT K) (tVar 0) (tC (.int 1))) (tCons (tCB (rTupOf K) (tCons (tLc (iTup K (tOp (rIxT K) (tVar 0) (tC (.int 2)))) (gName 6) tYes (tCall sp [] E0 (tCons (tVar 6) (tCons (tVar 1) (tCons (tVar 2) (tCons (tVar 3) tNil))))) [6]) tNil)) tNil))))) tNext)
  (tSeq (tIfS (tTest (tOp (rIn K false) (tOp (rIxT K) (tVar 0) (tC (.int 0))) (tC (.ref aB)))) (tRet (tTup (tCons (tOp (rIxT K) (tVar 0) (tC (.int 0))) (tCons (tOp (rIxT K) (tVar 0) (tC (.int 1))) (tCons (tCall sp [] E0 (tCons (tOp (rIxT K) (tVar 0) (tC (.int 2))) (tCons (tVar 1) (tCons (tVar 2) (tCons (tOp (rI0 fun i j => .int (i + j)) (tVar 3) (tC (.int 1))) tNil))))) tNil))))) tNext)
  (tRet (tOp (rCatT K) (tTup (tCons (tOp (rIxT K) (tVar 0) (tC (.int 0))) tNil)) (tCB (rTupOf K) (tCons (tLc (iTup K (tSl (rSlT K) (tVar 0) (tPart (tC (.int 1))) tNoPart)) (gName 6) tYes (tCall sp [] E0 (tCons (tVar 6) (tCons (tVar 1) (tCons (tVar 2) (tCons (tVar 3) tNil))))) [6]) tNil))))))))
def tExch4 (K : PySem.W.Frag) (sp : Sp) (aB : Addr) : TS :=
  (tSeq (tIfS (tTest (tOp rIsN0 (tVar 2) (tC .non))) (tAsg (tTup (tCons (tC (.str "bound")) (tCons (tVar 3) tNil))) (gName 5)) tNext)
  (tSeq (tIfS (tTest (tOp (rEqD K) (tVar 0) (tVar 4))) (tRet (tVar 5)) tNext)
  (tSeq (tIfS (tTest (tOp (rIn K false) (tOp (rIxT K) (tVar 0) (tC (.int 0))) (tTup (tCons (tC (.str "name")) (tCons (tC (.str "bound")) tNil))))) (tRet (tVar 0)) tNext)
  (tSeq (tIfS (tTest (tOp rEq (tOp (rIxT K) (tVar 0) (tC (.int 0))) (tC (.str "made")))) (tRet (tTup (tCons (tC (.str "made")) (tCons (tOp (rIxT K) (tVar 0) (tC (.int 1))) (tCons (tCB (rTupOf K) (tCons (tLc (iTup K (tOp (rIxT K) (tVar 0) (tC (.int 2)))) (gName 6) tYes (tCall sp [] E0 (tCons (tVar 6) (tCons (tVar 1) (tCons (tVar 2) (tCons (tVar 3) tNil))))) [6]) tNil)) tNil))))) tNext)
  (tSeq (tIfS (tTest (tOp (rIn K false) (tOp (rIxT K) (tVar 0) (tC (.int 0))) (tC (.ref aB)))) (tRet (tTup (tCons (tOp (rIxT K) (tVar 0) (tC (.int 0))) (tCons (tOp (rIxT K) (tVar 0) (tC (.int 1))) (tCons (tCall sp [] E0 (tCons (tOp (rIxT K) (tVar 0) (tC (.int 2))) (tCons (tVar 1) (tCons (tVar 2) (tCons (tOp (rI0 fun i j => .int (i + j)) (tVar 3) (tC (.int 1))) tNil))))) tNil))))) tNext)
  (tRet (tOp (rCatT K) (tTup (tCons (tOp (rIxT K) (tVar 0) (tC (.int 0))) tNil)) (tCB (rTupOf K) (tCons (tLc (iTup K (tSl (rSlT K) (tVar 0) (tPart (tC (.int 1))) tNoPart)) (gName 6) tYes (tCall sp [] E0 (tCons (tVar 6) (tCons (tVar 1) (tCons (tVar 2) (tCons (tVar 3) tNil))))) [6]) tNil)))))))))
def tExch (K : PySem.W.Frag) (sp : Sp) (aB : Addr) : TS :=
  (tSeq (tAsg (tVar 1) (gName 4))
  (tSeq (tAsg (tVar 2) (gName 5))
  (tSeq (tIfS (tTest (tOp rIsN0 (tVar 1) (tC .non))) (tAsg (tTup (tCons (tC (.str "bound")) (tCons (tVar 3) tNil))) (gName 4)) tNext)
  (tSeq (tIfS (tTest (tOp rIsN0 (tVar 2) (tC .non))) (tAsg (tTup (tCons (tC (.str "bound")) (tCons (tVar 3) tNil))) (gName 5)) tNext)
  (tSeq (tIfS (tTest (tOp (rEqD K) (tVar 0) (tVar 4))) (tRet (tVar 5)) tNext)
  (tSeq (tIfS (tTest (tOp (rIn K false) (tOp (rIxT K) (tVar 0) (tC (.int 0))) (tTup (tCons (tC (.str "name")) (tCons (tC (.str "bound")) tNil))))) (tRet (tVar 0)) tNext)
  (tSeq (tIfS (tTest (tOp rEq (tOp (rIxT K) (tVar 0) (tC (.int 0))) (tC (.str "made")))) (tRet (tTup (tCons (tC (.str "made")) (tCons (tOp (rIxT K) (tVar 0) (tC (.int 1))) (tCons (tCB (rTupOf K) (tCons (tLc (iTup K (tOp (rIxT K) (tVar 0) (tC (.int 2)))) (gName 6) tYes (tCall sp [] E0 (tCons (tVar 6) (tCons (tVar 1) (tCons (tVar 2) (tCons (tVar 3) tNil))))) [6]) tNil)) tNil))))) tNext)
  (tSeq (tIfS (tTest (tOp (rIn K false) (tOp (rIxT K) (tVar 0) (tC (.int 0))) (tC (.ref aB)))) (tRet (tTup (tCons (tOp (rIxT K) (tVar 0) (tC (.int 0))) (tCons (tOp (rIxT K) (tVar 0) (tC (.int 1))) (tCons (tCall sp [] E0 (tCons (tOp (rIxT K) (tVar 0) (tC (.int 2))) (tCons (tVar 1) (tCons (tVar 2) (tCons (tOp (rI0 fun i j => .int (i + j)) (tVar 3) (tC (.int 1))) tNil))))) tNil))))) tNext)
  (tRet (tOp (rCatT K) (tTup (tCons (tOp (rIxT K) (tVar 0) (tC (.int 0))) tNil)) (tCB (rTupOf K) (tCons (tLc (iTup K (tSl (rSlT K) (tVar 0) (tPart (tC (.int 1))) tNoPart)) (gName 6) tYes (tCall sp [] E0 (tCons (tVar 6) (tCons (tVar 1) (tCons (tVar 2) (tCons (tVar 3) tNil))))) [6]) tNil))))))))))))
def encO : Option Th → PyData
  | none => .none
  | some t => enc t
/-- what exchanged gives -/
def AExch (n : Nat) (ds : List PyData) (d : PyData) : Prop := ∃ (t : Th) (o : Option Lf) (b : Option Th) (k : Nat), n ≤ 30 ∧ Ok false n t ∧ LfOk (o.getD (.bound k)) ∧ ds = [enc t, encO (o.map .lf), encO b, .int k] ∧ d = enc (exch o b k t)
section
variable {P : Program} {w : World} {K : PySem.W.Frag} {mg : Str → Option Value} {base : Heap}
theorem pure_exch {n : Nat} {aB : Addr} (lB : ∀ H, SqT K H aB [.str "all", .str "some"]) (vs : List V) (H : Hp) (Q : VK) (E : XK) (h : SpD K (AExch (n + 1)) vs H Q E) : tExch K (SpD K (AExch n)) aB { nx := fun _ H' => Q .non H', rt := Q } (start ["thing", "what", "by", "deep", "old", "new", "part"] vs) H := by
  obtain ⟨F, ds, d, s, r, ⟨t, o, b, k, hn, ok, lo, rfl, rfl⟩, q⟩ := h
  obtain ⟨v0, u, rfl, r0, r⟩ := r.uncons
  obtain ⟨v1, u, rfl, r1, r⟩ := r.uncons
  obtain ⟨v2, u, rfl, r2, r⟩ := r.uncons
  obtain ⟨v3, rfl, r3⟩ := r.one
  -- old = what; new = by
  refine ⟨v1, rfl, v2, rfl, ?_⟩
  -- old and new as they are behind the ifs
  suffices go : ∀ (F1 H1 : Hp) (x y : V), Gr [] F H F1 H1 → R K F1 x (encL (o.getD (.bound k))) → R K F1 y (enc (b.getD (.lf (.bound k)))) → tExch5 K (SpD K (AExch n)) aB { nx := fun _ H' => Q .non H', rt := Q } [some v0, some v1, some v2, some v3, some x, some y, none] H1 by
    have bnd : ∀ (F1 H1 : Hp) (σ : L2.St), Gr [] F H F1 H1 → σ[3]? = some (some v3) → ED K (tTup (tCons (tC (.str "bound")) (tCons (tVar 3) tNil))) σ F1 H1 (encL (.bound k)) := fun F1 H1 σ g e => ed_tup (ea_cons ed_str (ea_cons (ed_var e (r3.at g.ff)) ea_nil)) (by simp)
    have two : ∀ (F1 H1 : Hp) (x : V), Gr [] F H F1 H1 → R K F1 x (encL (o.getD (.bound k))) → tExch4 K (SpD K (AExch n)) aB { nx := fun _ H' => Q .non H', rt := Q } [some v0, some v1, some v2, some v3, some x, some v2, none] H1 := fun F1 H1 x g rx => by
      cases b with
      | none =>
        refine q_ifNone rfl (show v2 = .non by cases r2; rfl) ((bnd F1 H1 _ g rfl).go g.fh fun y F2 H2 g2 ry => ?_)
        exact go F2 H2 x y (g.tr g2) (rx.at g2.ff) ry
      | some b =>
        refine q_ifSome rfl (show v2 ≠ .non from r2.notNone (enc_eq b)) ?_
        exact go F1 H1 x v2 g rx (r2.at g.ff)
    cases o with
    | none =>
      refine q_ifNone rfl (show v1 = .non by cases r1; rfl) ((bnd F H _ (.refl s) rfl).go s fun y F2 H2 g2 ry => ?_)
      exact two F2 H2 y g2 ry
    | some l =>
      refine q_ifSome rfl (show v1 ≠ .non from r1.notNone (enc_eq (.lf l))) ?_
      exact two F H v1 (.refl s) r1
  intro F1 H1 x y g rx ry
  have z0 := r0.at g.ff
  -- thing == old
  refine q_when (eb_test (ed_op (ed_var rfl z0) (ed_var rfl rx) (rr_eqD (shaped_ok ok hn) (shaped_lf lo)))) g.fh (fun e F2 H2 g2 => ?_) (fun e F2 H2 g2 => ?_)
  · rw [eqv_lf ok] at e
    cases t with
    | lf l =>
      have e1 : l = o.getD (.bound k) := of_decide_eq_true e
      have e2 : exch o b k (.lf l) = b.getD (.lf (.bound k)) := by rw [exch, if_pos e1]
      rw [e2] at q
      exact ⟨y, rfl, q y F2 H2 (g.tr g2) (ry.at g2.ff)⟩
    | _ => cases e
  have ne : exch o b k t = match t with | .lf l => .lf l | t => exch o b k t := by
    cases t with
    | lf l =>
      have e1 : l ≠ o.getD (.bound k) := fun z => by
        rw [eqv_lf ok] at e
        simp [isLf, z] at e
      rw [exch, if_neg e1]
    | _ => rfl
  have g2 := g.tr g2
  have z0 := r0.at g2.ff
  have z1 := r1.at g2.ff
  have z2 := r2.at g2.ff
  have z3 := r3.at g2.ff
  rw [enc_eq] at z0
  -- thing[0] in ('name', 'bound')
  refine q_when (eb_test (ed_op (ed_op (ed_var rfl z0) ed_int (rr_ixT (atI_nat (j := 0) rfl))) (ed_tup (ea_cons ed_str (ea_cons ed_str ea_nil)) (by simp)) (rr_inT rfl rfl))) g2.fh (fun e F3 H3 g3 => ?_) (fun e F3 H3 g3 => ?_)
  · rw [tstLf ok] at e
    cases t with
    | lf l =>
      rw [ne] at q
      exact ⟨v0, rfl, q v0 F3 H3 (g2.tr g3) (r0.at (g2.tr g3).ff)⟩
    | _ => cases e
  rw [tstLf ok] at e
  have g3 := g2.tr g3
  have z0 := r0.at g3.ff
  rw [enc_eq] at z0
  -- thing[0] == 'made'
  refine q_when (eb_test (ed_op (ed_op (ed_var rfl z0) ed_int (rr_ixT (atI_nat (j := 0) rfl))) ed_str rr_eqS)) g3.fh (fun e F4 H4 g4 => ?_) (fun e F4 H4 g4 => ?_)
  · rw [tstMade ok] at e
    have g4 := g3.tr g4
    have z0 := r0.at g4.ff
    have z1 := r1.at g4.ff
    have z2 := r2.at g4.ff
    have z3 := r3.at g4.ff
    cases t with
    | made f ps =>
      cases ok with
      | made hf hl hps =>
        rw [exch, exchs_map] at q
        rw [enc_eq, tl, encs_map] at z0
        refine q_ret (d := enc (.made f (ps.map (exch o b k)))) ?_ g4.fh fun v F5 H5 g5 r5 => q v F5 H5 (g4.tr g5) r5
        rw [enc, encs_map, List.map_map]
        refine ed_tup (ea_cons ed_str (ea_cons (ed_op (ed_var rfl z0) ed_int (rr_ixT (atI_nat (j := 1) rfl))) (ea_cons (ed_cb (ea_cons (ed_lcT (ed_op (ed_var rfl z0) ed_int (rr_ixT (atI_nat (j := 2) rfl))) (by omega) (fun _ => rfl) fun a x F5 H5 ha g5 rx => ?_) ea_nil) rc_tupleL) ea_nil))) (by simp)
        exact ed_call (ea_cons (ed_var rfl rx) (ea_cons (ed_var rfl (z1.at g5.ff)) (ea_cons (ed_var rfl (z2.at g5.ff)) (ea_cons (ed_var rfl (z3.at g5.ff)) ea_nil)))) ⟨a, o, b, k, by omega, hps.mem a ha, lo, rfl, rfl⟩
    | _ => cases e
  rw [tstMade ok] at e
  have g4 := g3.tr g4
  have z0 := r0.at g4.ff
  rw [enc_eq] at z0
  have zB : R K F4 (.ref aB) (.tuple [.str "all", .str "some"]) := .tup (lB F4) (.cons (.str _) (.cons (.str _) .nil))
  -- thing[0] in BINDERS
  refine q_when (eb_test (ed_op (ed_op (ed_var rfl z0) ed_int (rr_ixT (atI_nat (j := 0) rfl))) (ed_c zB) (rr_inT rfl rfl))) g4.fh (fun e F5 H5 g5 => ?_) (fun e F5 H5 g5 => ?_)
  · rw [tstBind ok] at e
    have g5 := g4.tr g5
    have z0 := r0.at g5.ff
    have z1 := r1.at g5.ff
    have z2 := r2.at g5.ff
    have z3 := r3.at g5.ff
    cases t with
    | bind w kd a =>
      cases ok with
      | bind _ hw hk ha =>
        rw [exch] at q
        rw [enc_eq] at z0
        refine q_ret (d := enc (.bind w kd (exch o b (k + 1) a))) (ed_tup (ea_cons (ed_op (ed_var rfl z0) ed_int (rr_ixT (atI_nat (j := 0) rfl))) (ea_cons (ed_op (ed_var rfl z0) ed_int (rr_ixT (atI_nat (j := 1) rfl))) (ea_cons ?_ ea_nil))) (by simp)) g5.fh fun v F6 H6 g6 r6 => q v F6 H6 (g5.tr g6) r6
        refine ed_call (ea_cons (ed_op (ed_var rfl z0) ed_int (rr_ixT (atI_nat (j := 2) rfl))) (ea_cons (ed_var rfl z1) (ea_cons (ed_var rfl z2) (ea_cons (ed_op (ed_var rfl z3) ed_int rr_I0) ea_nil)))) ⟨a, o, b, k + 1, by omega, ha, ?_, rfl, rfl⟩
        cases o with
        | none => trivial
        | some l => exact lo
    | nbind =>
      cases ok with
      | nbind hv _ _ _ => cases hv
    | _ => cases e
  rw [tstBind ok] at e
  have g5 := g4.tr g5
  have z0 := r0.at g5.ff
  have z1 := r1.at g5.ff
  have z2 := r2.at g5.ff
  have z3 := r3.at g5.ff
  cases t with
  | node wd ps =>
    cases ok with
    | node hw hl hps =>
      rw [exch, exchs_map] at q
      rw [enc_eq, tl, encs_map] at z0
      refine q_ret (d := enc (.node wd (ps.map (exch o b k)))) ?_ g5.fh fun v F6 H6 g6 r6 => q v F6 H6 (g5.tr g6) r6
      rw [enc, encs_map, List.map_map]
      have cut : cutD (PyData.str (hd (.node wd ps)) :: ps.map enc) (some 1) none = ps.map enc := cutD_one _ _
      refine ed_op (ed_tup (ea_cons (ed_op (ed_var rfl z0) ed_int (rr_ixT (atI_nat (j := 0) rfl))) ea_nil) (by simp)) (ed_cb (ea_cons (ed_lcT (e := enc) (f := fun a => enc (exch o b k a)) (xs := ps) ?_ (by omega) (fun _ => rfl) fun a x F6 H6 ha g6 rx => ?_) ea_nil) rc_tupleL) (rr_catT (by simp) (by simp; omega))
      · rw [← cut]
        exact ed_slT (ed_var rfl z0) (eo_some (ed_int (K := K))) eo_none (cut_ok _ _)
      · exact ed_call (ea_cons (ed_var rfl rx) (ea_cons (ed_var rfl (z1.at g6.ff)) (ea_cons (ed_var rfl (z2.at g6.ff)) (ea_cons (ed_var rfl (z3.at g6.ff)) ea_nil)))) ⟨a, o, b, k, by omega, hps.mem a ha, lo, rfl, rfl⟩
  | lf l => cases ‹sortLf (.lf l) = false›
  | made f ps => cases ‹sortMade (.made f ps) = false›
  | bind w k a => cases e
  | nbind w k n a => cases e
theorem ok_exch {f aB : Addr} {fd : FuncData} (D : Df K mg "exchanged" sExch ["thing", "what", "by", "deep"] f fd) (gB : mg "BINDERS" = some (.ref aB)) (lB : ∀ H, SqT K H aB [.str "all", .str "some"]) (m_tuple : mg "tuple" = none) : ∀ n, FnOk P w K mg base CX0 (n + 1) f fd ["thing", "what", "by", "deep"] (SpD K (AExch n)) := by
  intro n
  induction n with
  | zero =>
    refine D.F.ok scExch (fun vs H Q E h => ?_) (fun cdv A outer s H vs Q E hr h => ?_)
    · obtain ⟨F, ds, d, _, _, ⟨t, _, _, _, _, h, _⟩, _⟩ := h
      cases h
    · obtain ⟨F, ds, d, _, _, ⟨t, _, _, _, _, h, _⟩, _⟩ := h
      cases h
  | succ n ih =>
    refine D.F.ok scExch (fun vs H Q E h => ?_) (fun cdv A outer s H vs Q E hr h => ⟨tExch K (SpD K (AExch n)) aB, ?_, pure_exch lB vs H Q E h⟩)
    · obtain ⟨F, ds, d, _, r, ⟨t, o, b, k, _, h, _, rfl, _⟩, _⟩ := h
      exact r.len
    · exact (pss_cons (ps_set (i := 4) scExch.nd rfl (Or.inl rfl) (pv 1))
    (pss_cons (ps_set (i := 5) scExch.nd rfl (Or.inl rfl) (pv 2))
    (pss_cons (ps_if (pt_cmpR op_isN (pv 1) pe_non (nomark _)) (pss_one (ps_set (i := 4) scExch.nd rfl (Or.inl rfl) (pe_tup (pa_cons pe_str (pa_cons (pv 3) pa_nil))))) pss_nil)
    (pss_cons (ps_if (pt_cmpR op_isN (pv 2) pe_non (nomark _)) (pss_one (ps_set (i := 5) scExch.nd rfl (Or.inl rfl) (pe_tup (pa_cons pe_str (pa_cons (pv 3) pa_nil))))) pss_nil)
    (pss_cons (ps_if (pt_cmpR (op_eqD hr.units) (pv 0) (pv 4) (nomark _)) (pss_one (ps_ret (pv 5))) pss_nil)
    (pss_cons (ps_if (pt_cmpR op_in_seq (pe_ix ix_tup (pv 0) pe_int (fun _ _ => rfl)) (pe_tup (pa_cons pe_str (pa_cons pe_str pa_nil))) (by rfl)) (pss_one (ps_ret (pv 0))) pss_nil)
    (pss_cons (ps_if (pt_cmpR op_eq (pe_ix ix_tup (pv 0) pe_int (fun _ _ => rfl)) pe_str (nomark _)) (pss_one (ps_ret (pe_tup (pa_cons pe_str (pa_cons (pe_ix ix_tup (pv 0) pe_int (fun _ _ => rfl)) (pa_cons (pe_callTy call_tuple_of (by rfl) m_tuple (by decide +kernel) (pa_cons (pe_lc (own := [("part", 6)]) (g := (gName 6)) (tt := tYes) (by rfl) scExch.nd (pi_tup (pe_ix ix_tup (pv 0) pe_int (fun _ _ => rfl))) (blkOk_by (own := [("part", 6)]) (N := ["thing", "what", "by", "deep", "old", "new", "part"]) (sc := defScope sExch) (by decide +kernel)) (fun _ _ _ _ _ => (pg_name (i := 6) scExch.nd rfl (Or.inl rfl))) (fun _ _ _ _ _ => pts_nil) (fun _ _ _ _ _ => (pe_call ih hr (by rfl) D.g D.F.kp D.b .nil pass0 (pa_cons (pv 6) (pa_cons (pv 1) (pa_cons (pv 2) (pa_cons (pv 3) pa_nil))))))) pa_nil)) pa_nil)))))) pss_nil)
    (pss_cons (ps_if (pt_cmpR op_in_seq (pe_ix ix_tup (pv 0) pe_int (fun _ _ => rfl)) (pe_glob (v := .ref aB) (by rfl) gB rfl) (by rfl)) (pss_one (ps_ret (pe_tup (pa_cons (pe_ix ix_tup (pv 0) pe_int (fun _ _ => rfl)) (pa_cons (pe_ix ix_tup (pv 0) pe_int (fun _ _ => rfl)) (pa_cons (pe_call ih hr (by rfl) D.g D.F.kp D.b .nil pass0 (pa_cons (pe_ix ix_tup (pv 0) pe_int (fun _ _ => rfl)) (pa_cons (pv 1) (pa_cons (pv 2) (pa_cons (pe_op op_add (pv 3) pe_int) pa_nil))))) pa_nil)))))) pss_nil)
    (pss_one (ps_ret (pe_op op_catT (pe_tup (pa_cons (pe_ix ix_tup (pv 0) pe_int (fun _ _ => rfl)) pa_nil)) (pe_callTy call_tuple_of (by rfl) m_tuple (by decide +kernel) (pa_cons (pe_lc (own := [("part", 6)]) (g := (gName 6)) (tt := tYes) (by rfl) scExch.nd (pi_tup (pe_slice sl_tup (pv 0) (po_some pe_int) po_none)) (blkOk_by (own := [("part", 6)]) (N := ["thing", "what", "by", "deep", "old", "new", "part"]) (sc := defScope sExch) (by decide +kernel)) (fun _ _ _ _ _ => (pg_name (i := 6) scExch.nd rfl (Or.inl rfl))) (fun _ _ _ _ _ => pts_nil) (fun _ _ _ _ _ => (pe_call ih hr (by rfl) D.g D.F.kp D.b .nil pass0 (pa_cons (pv 6) (pa_cons (pv 1) (pa_cons (pv 2) (pa_cons (pv 3) pa_nil))))))) pa_nil)))))))))))))
end
end Wk
namespace Wk
open PySem PySem.Spec PyProof.Rows L2 Ly Tm
abbrev sOpen : Stmt := topS 3
theorem scOpen : FnScope ["body", "term"] ["body", "term"] (defScope sOpen) := ⟨rfl, rfl, rfl, by decide +kernel, rfl, by decide +kernel, by decide +kernel⟩
def tOpen (K : PySem.W.Frag) (sp : Sp) : TS :=
  (tRet (tCall sp [] E0 (tCons (tVar 0) (tCons (tC .non) (tCons (tVar 1) (tCons (tC (.int 0)) tNil))))))
def AOpen (n : Nat) (ds : List PyData) (d : PyData) : Prop := ∃ t T, n ≤ 30 ∧ Ok false n t ∧ ds = [enc t, enc T] ∧ d = enc (exch none (some T) 0 t)
section
variable {P : Program} {w : World} {K : PySem.W.Frag} {mg : Str → Option Value} {base : Heap}
theorem ok_Open {f fE : Addr} {fd fdE : FuncData} {n k : Nat} (hk : n + 1 ≤ k) (D : Df K mg "opened" sOpen ["body", "term"] f fd) (DE : Df K mg "exchanged" sExch ["thing", "what", "by", "deep"] fE fdE) (GE : FnOk P w K mg base CX0 (n + 1) fE fdE ["thing", "what", "by", "deep"] (SpD K (AExch n))) : FnOk P w K mg base CX0 (k + 1) f fd ["body", "term"] (SpD K (AOpen n)) := by
  refine D.F.ok scOpen (fun vs H Q E h => ?_) (fun cdv A outer s H vs Q E hr h => ⟨tOpen K (SpD K (AExch n)), ?_, ?_⟩)
  · obtain ⟨F, ds, d, _, r, h, _⟩ := h
    obtain ⟨t, T, _, _, rfl, _⟩ := h
    exact r.len
  · exact (pss_one (ps_ret (pe_call GE (hr.mono (by omega)) (by rfl) DE.g DE.F.kp DE.b .nil pass0 (pa_cons (pv 0) (pa_cons pe_non (pa_cons (pv 1) (pa_cons pe_int pa_nil)))))))
  · obtain ⟨F, ds, d, s, r, h, q⟩ := h
    obtain ⟨t, T, hn, ok, rfl, rfl⟩ := h
    obtain ⟨v0, v1, rfl, r0, r1⟩ := r.two
    exact q_ret (ed_call (ea_cons (ed_var rfl r0) (ea_cons ed_non (ea_cons (ed_var rfl r1) (ea_cons ed_int ea_nil)))) ⟨t, none, some T, 0, hn, ok, trivial, rfl, rfl⟩) s q
end
abbrev sShut : Stmt := topS 4
theorem scShut : FnScope ["saying", "x", "kind"] ["saying", "x", "kind"] (defScope sShut) := ⟨rfl, rfl, rfl, by decide +kernel, rfl, by decide +kernel, by decide +kernel⟩
def tShut (K : PySem.W.Frag) (sp : Sp) : TS :=
  (tRet (tCall sp [] E0 (tCons (tVar 0) (tCons (tTup (tCons (tC (.str "name")) (tCons (tVar 1) (tCons (tVar 2) tNil)))) (tCons (tC .non) (tCons (tC (.int 0)) tNil))))))
def AShut (n : Nat) (ds : List PyData) (d : PyData) : Prop := ∃ t x k, n ≤ 30 ∧ Ok false n t ∧ So x ∧ So k ∧ ds = [enc t, .str x, .str k] ∧ d = enc (exch (some (.name x k)) none 0 t)
section
variable {P : Program} {w : World} {K : PySem.W.Frag} {mg : Str → Option Value} {base : Heap}
theorem ok_Shut {f fE : Addr} {fd fdE : FuncData} {n k : Nat} (hk : n + 1 ≤ k) (D : Df K mg "shut" sShut ["saying", "x", "kind"] f fd) (DE : Df K mg "exchanged" sExch ["thing", "what", "by", "deep"] fE fdE) (GE : FnOk P w K mg base CX0 (n + 1) fE fdE ["thing", "what", "by", "deep"] (SpD K (AExch n))) : FnOk P w K mg base CX0 (k + 1) f fd ["saying", "x", "kind"] (SpD K (AShut n)) := by
  refine D.F.ok scShut (fun vs H Q E h => ?_) (fun cdv A outer s H vs Q E hr h => ⟨tShut K (SpD K (AExch n)), ?_, ?_⟩)
  · obtain ⟨F, ds, d, _, r, h, _⟩ := h
    obtain ⟨t, x, k, _, _, _, _, rfl, _⟩ := h
    exact r.len
  · exact (pss_one (ps_ret (pe_call GE (hr.mono (by omega)) (by rfl) DE.g DE.F.kp DE.b .nil pass0 (pa_cons (pv 0) (pa_cons (pe_tup (pa_cons pe_str (pa_cons (pv 1) (pa_cons (pv 2) pa_nil)))) (pa_cons pe_non (pa_cons pe_int pa_nil)))))))
  · obtain ⟨F, ds, d, s, r, h, q⟩ := h
    obtain ⟨t, x, k, hn, ok, hx, hk, rfl, rfl⟩ := h
    obtain ⟨v0, u, rfl, r0, r⟩ := r.uncons
    obtain ⟨v1, v2, rfl, r1, r2⟩ := r.two
    exact q_ret (ed_call (ea_cons (ed_var rfl r0) (ea_cons (ed_tup (ea_cons ed_str (ea_cons (ed_var rfl r1) (ea_cons (ed_var rfl r2) ea_nil))) (by simp)) (ea_cons ed_non (ea_cons ed_int ea_nil)))) ⟨t, some (.name x k), none, 0, hn, ok, ⟨hx, hk⟩, rfl, rfl⟩) s q
end
abbrev sPut : Stmt := topS 5
theorem scPut : FnScope ["saying", "x", "kind", "term"] ["saying", "x", "kind", "term"] (defScope sPut) := ⟨rfl, rfl, rfl, by decide +kernel, rfl, by decide +kernel, by decide +kernel⟩
def tPut (K : PySem.W.Frag) (sp : Sp) : TS :=
  (tRet (tCall sp [] E0 (tCons (tVar 0) (tCons (tTup (tCons (tC (.str "name")) (tCons (tVar 1) (tCons (tVar 2) tNil)))) (tCons (tVar 3) (tCons (tC (.int 0)) tNil))))))
def APut (n : Nat) (ds : List PyData) (d : PyData) : Prop := ∃ t x k T, n ≤ 30 ∧ Ok false n t ∧ So x ∧ So k ∧ ds = [enc t, .str x, .str k, enc T] ∧ d = enc (exch (some (.name x k)) (some T) 0 t)
section
variable {P : Program} {w : World} {K : PySem.W.Frag} {mg : Str → Option Value} {base : Heap}
theorem ok_Put {f fE : Addr} {fd fdE : FuncData} {n k : Nat} (hk : n + 1 ≤ k) (D : Df K mg "put_in" sPut ["saying", "x", "kind", "term"] f fd) (DE : Df K mg "exchanged" sExch ["thing", "what", "by", "deep"] fE fdE) (GE : FnOk P w K mg base CX0 (n + 1) fE fdE ["thing", "what", "by", "deep"] (SpD K (AExch n))) : FnOk P w K mg base CX0 (k + 1) f fd ["saying", "x", "kind", "term"] (SpD K (APut n)) := by
  refine D.F.ok scPut (fun vs H Q E h => ?_) (fun cdv A outer s H vs Q E hr h => ⟨tPut K (SpD K (AExch n)), ?_, ?_⟩)
  · obtain ⟨F, ds, d, _, r, h, _⟩ := h
    obtain ⟨t, x, k, T, _, _, _, _, rfl, _⟩ := h
    exact r.len
  · exact (pss_one (ps_ret (pe_call GE (hr.mono (by omega)) (by rfl) DE.g DE.F.kp DE.b .nil pass0 (pa_cons (pv 0) (pa_cons (pe_tup (pa_cons pe_str (pa_cons (pv 1) (pa_cons (pv 2) pa_nil)))) (pa_cons (pv 3) (pa_cons pe_int pa_nil)))))))
  · obtain ⟨F, ds, d, s, r, h, q⟩ := h
    obtain ⟨t, x, k, T, hn, ok, hx, hk, rfl, rfl⟩ := h
    obtain ⟨v0, u, rfl, r0, r⟩ := r.uncons
    obtain ⟨v1, u, rfl, r1, r⟩ := r.uncons
    obtain ⟨v2, v3, rfl, r2, r3⟩ := r.two
    exact q_ret (ed_call (ea_cons (ed_var rfl r0) (ea_cons (ed_tup (ea_cons ed_str (ea_cons (ed_var rfl r1) (ea_cons (ed_var rfl r2) ea_nil))) (by simp)) (ea_cons (ed_var rfl r3) (ea_cons ed_int ea_nil)))) ⟨t, some (.name x k), some T, 0, hn, ok, ⟨hx, hk⟩, rfl, rfl⟩) s q
end
abbrev sNw : Stmt := topS 6
theorem scNw : FnScope ["thing", "parts", "found", "part"] ["thing"] (defScope sNw) := ⟨rfl, rfl, rfl, by decide +kernel, rfl, by decide +kernel, by decide +kernel⟩
def tNw5 (K : PySem.W.Frag) (sp : Sp) : TS :=
  (tSeq (tAsg (tLst tNil) (gName 2))
  (tSeq (tFor (iTup K (tVar 1)) (gName 3) (tIfS (tB (tCB (rIsi K) (tCons (tVar 3) (tCons (tC (.ty "tuple")) tNil)))) (tDrop (tBM K "list" rExtend (tVar 2) (tCons (tCall sp [] E0 (tCons (tVar 3) tNil)) tNil))) tNext))
  (tRet (tVar 2))))
def tNw4 (K : PySem.W.Frag) (sp : Sp) (aB : Addr) : TS :=
  (tSeq (tIfS (tTest (tOp (rIn K false) (tOp (rIxT K) (tVar 0) (tC (.int 0))) (tC (.ref aB)))) (tAsg (tSl (rSlT K) (tVar 0) (tPart (tC (.int 2))) tNoPart) (gName 1)) tNext)
  (tSeq (tAsg (tLst tNil) (gName 2))
  (tSeq (tFor (iTup K (tVar 1)) (gName 3) (tIfS (tB (tCB (rIsi K) (tCons (tVar 3) (tCons (tC (.ty "tuple")) tNil)))) (tDrop (tBM K "list" rExtend (tVar 2) (tCons (tCall sp [] E0 (tCons (tVar 3) tNil)) tNil))) tNext))
  (tRet (tVar 2)))))
def tNw (K : PySem.W.Frag) (sp : Sp) (aB : Addr) : TS :=
  (tSeq (tIfS (tTest (tOp rEq (tOp (rIxT K) (tVar 0) (tC (.int 0))) (tC (.str "name")))) (tRet (tLst (tCons (tTup (tCons (tOp (rIxT K) (tVar 0) (tC (.int 1))) (tCons (tOp (rIxT K) (tVar 0) (tC (.int 2))) tNil))) tNil))) tNext)
  (tSeq (tAsg (tSl (rSlT K) (tVar 0) (tPart (tC (.int 1))) tNoPart) (gName 1))
  (tSeq (tIfS (tTest (tOp rEq (tOp (rIxT K) (tVar 0) (tC (.int 0))) (tC (.str "made")))) (tAsg (tOp (rIxT K) (tVar 0) (tC (.int 2))) (gName 1)) tNext)
  (tSeq (tIfS (tTest (tOp (rIn K false) (tOp (rIxT K) (tVar 0) (tC (.int 0))) (tC (.ref aB)))) (tAsg (tSl (rSlT K) (tVar 0) (tPart (tC (.int 2))) tNoPart) (gName 1)) tNext)
  (tSeq (tAsg (tLst tNil) (gName 2))
  (tSeq (tFor (iTup K (tVar 1)) (gName 3) (tIfS (tB (tCB (rIsi K) (tCons (tVar 3) (tCons (tC (.ty "tuple")) tNil)))) (tDrop (tBM K "list" rExtend (tVar 2) (tCons (tCall sp [] E0 (tCons (tVar 3) tNil)) tNil))) tNext))
  (tRet (tVar 2))))))))
/-- what names_within gives -/
def ANw (n : Nat) (ds es : List PyData) : Prop := ∃ t, Ok false n t ∧ wt t ≤ 10000 ∧ ds = [enc t] ∧ es = (names t).map SetK.encT
/-- what a loop over parts meets -/
def encI : Sum Nat Th → PyData
  | .inl n => .int n
  | .inr t => enc t
def namesI : List (Sum Nat Th) → List (List Str)
  | [] => []
  | .inl _ :: r => namesI r
  | .inr t :: r => names t ++ namesI r
section
variable {P : Program} {w : World} {K : PySem.W.Frag} {mg : Str → Option Value} {base : Heap}

theorem namesI_app : ∀ a b : List (Sum Nat Th), namesI (a ++ b) = namesI a ++ namesI b
  | [], b => rfl
  | .inl _ :: a, b => namesI_app a b
  | .inr t :: a, b => by rw [List.cons_append, namesI, namesI, namesI_app a b, List.append_assoc]
theorem namesI_inr : ∀ ts : List Th, namesI (ts.map .inr) = namess ts
  | [] => rfl
  | t :: ts => by rw [List.map_cons, namesI, namess, namesI_inr ts]
theorem namesI_len : ∀ (a : List (Sum Nat Th)) (i : Nat), (namesI (a.take i)).length ≤ (namesI a).length
  | [], i => by simp
  | _ :: _, 0 => Nat.zero_le _
  | .inl _ :: a, i + 1 => namesI_len a i
  | .inr t :: a, i + 1 => by
    have := namesI_len a i
    rw [List.take_succ_cons, namesI, namesI, List.length_append, List.length_append]
    omega
/-- the loop of names_within -/
theorem nw_loop {n : Nat} {F H F1 H1 : Hp} {v0 vp : V} {its : List (Sum Nat Th)} {Q : VK} (g : Gr [] F H F1 H1) (rp : R K F1 vp (.tuple (its.map encI))) (ok : ∀ t, .inr t ∈ its → Ok false n t ∧ wt t ≤ 10000) (hz : (namesI its).length ≤ 10000)
    (q : ∀ p F2 H2, Own K F H F2 H2 p ((namesI its).map SetK.encT) → Q (.ref p) H2) : tNw5 K (SpL K (ANw n)) { nx := fun _ H' => Q .non H', rt := Q } [some v0, some vp, none, none] H1 := by
  refine q_own (K := K) g ea_nil (by simp) fun p F2 H2 o s12 => ?_
  refine q_forT (ed_var rfl (rp.at s12)) o.gr.fh fun F3 H3 g3 => ?_
  refine ⟨fun i σ2 H4 => ∃ F4 y, σ2 = [some v0, some vp, some (.ref p), y] ∧ Same F3 F4 ∧ Own K F H F4 H4 p ((namesI (its.take i)).map SetK.encT), ⟨F3, none, rfl, fun _ _ e => e, o.more g3⟩, fun i σ2 H4 ⟨F4, y, _, s, o4⟩ => ⟨F4, o4.gr.fh, s⟩, ?_, ?_⟩
  · rintro i x d σ2 H4 hd rx ⟨F4, y, rfl, s, o4⟩
    obtain ⟨it, hit, rfl⟩ := get_map hd
    have hm := List.mem_of_getElem? hit
    have ht : its.take (i + 1) = its.take i ++ [it] := by rw [List.take_succ, hit]; rfl
    cases it with
    | inl m =>
      refine (eb_isi (c := "tuple") (b := false) rfl (rx.at s) (by show kitB "int" "tuple" = some false; decide +kernel)).go o4.gr.fh fun F5 H5 g5 => iteF ?_
      refine ⟨F5, some x, rfl, s.trans g5.ff, ?_⟩
      rw [ht, namesI_app]
      show Own K F H F5 H5 p ((namesI (its.take i) ++ []).map SetK.encT)
      rw [List.append_nil]
      exact o4.more g5
    | inr t =>
      obtain ⟨okt, wtt⟩ := ok t hm
      have rt := rx.at s
      refine (eb_isi (c := "tuple") (b := true) rfl rt (by show kitB (tyD (enc t)) "tuple" = some true; rw [enc_eq]; show kitB "tuple" "tuple" = some true; decide +kernel)).go o4.gr.fh fun F5 H5 g5 => iteT ?_
      refine own_extend (o4.more g5) rfl (ed_callL (ea_cons (ed_var rfl (rt.at g5.ff)) ea_nil) ⟨t, okt, wtt, rfl, rfl⟩) ?_ fun F6 H6 o6 s6 => ?_
      · have h1 := namesI_len its i
        have h2 := names_len t
        rw [List.length_map, List.length_map]
        omega
      · refine ⟨F6, some x, rfl, (s.trans g5.ff).trans s6, ?_⟩
        rw [ht, namesI_app]
        show Own K F H F6 H6 p ((namesI (its.take i) ++ (names t ++ [])).map SetK.encT)
        rw [List.append_nil, List.map_append]
        exact o6
  · rintro σ2 H4 ⟨F4, y, rfl, s, o4⟩
    rw [List.length_map, List.take_length] at o4
    exact ⟨.ref p, rfl, q p F4 H4 o4⟩
theorem pure_nw {n : Nat} {aB : Addr} (lB : ∀ H, SqT K H aB [.str "all", .str "some"]) (vs : List V) (H : Hp) (Q : VK) (E : XK) (h : SpL K (ANw (n + 1)) vs H Q E) : tNw K (SpL K (ANw n)) aB { nx := fun _ H' => Q .non H', rt := Q } (start ["thing", "parts", "found", "part"] vs) H := by
  obtain ⟨F, ds, es, s, r, ⟨t, ok, hw, rfl, rfl⟩, q⟩ := h
  obtain ⟨v0, rfl, r0⟩ := r.one
  have z0 := r0
  rw [enc_eq] at z0
  -- thing[0] == 'name'
  refine q_when (eb_test (ed_op (ed_op (ed_var rfl z0) ed_int (rr_ixT (atI_nat (j := 0) rfl))) ed_str rr_eqS)) s (fun e F1 H1 g1 => ?_) (fun e F1 H1 g1 => ?_)
  · rw [tstName ok] at e
    cases t with
    | lf l =>
      cases l with
      | name x k =>
        have z0 : R K F1 v0 (.tuple [.str "name", .str x, .str k]) := r0.at g1.ff
        refine q_retOwn (ds := [SetK.encT [x, k]]) g1 (ea_cons (ed_tup (ea_cons (ed_op (ed_var rfl z0) ed_int (rr_ixT (atI_nat (j := 1) rfl))) (ea_cons (ed_op (ed_var rfl z0) ed_int (rr_ixT (atI_nat (j := 2) rfl))) ea_nil)) (by simp)) ea_nil) (by simp) fun p F2 H2 o _ => q p F2 H2 o
      | _ => cases e
    | _ => cases e
  rw [tstName ok] at e
  have z0 := r0.at g1.ff
  rw [enc_eq] at z0
  -- parts = thing[1:]
  refine q_set (ed_slT (ed_var rfl z0) (eo_some (ed_int (K := K))) eo_none (cut_ok _ _)) g1.fh fun vp F2 H2 g2 rp => ?_
  rw [cutD_one] at rp
  have g2 := g1.tr g2
  have z0 := r0.at g2.ff
  rw [enc_eq] at z0
  -- if thing[0] == 'made': parts = thing[2]
  suffices go : ∀ F3 H3 vp, Gr [] F H F3 H3 → (∀ (hb : sortMade t = true → ∃ f ps, t = .made f ps ∧ R K F3 vp (.tuple (encs ps))), (sortMade t = false → R K F3 vp (.tuple (tl t))) → tNw4 K (SpL K (ANw n)) aB { nx := fun _ H' => Q .non H', rt := Q } [some v0, some vp, none, none] H3) by
    refine q_when (eb_test (ed_op (ed_op (ed_var rfl z0) ed_int (rr_ixT (atI_nat (j := 0) rfl))) ed_str rr_eqS)) g2.fh (fun e F3 H3 g3 => ?_) (fun e F3 H3 g3 => ?_)
    · rw [tstMade ok] at e
      cases t with
      | made f ps =>
        have z0 := r0.at (g2.tr g3).ff
        rw [enc_eq, tl] at z0
        refine (ed_op (ed_var rfl z0) ed_int (rr_ixT (atI_nat (j := 2) rfl))).go g3.fh fun vq F4 H4 g4 rq => ?_
        exact go F4 H4 vq ((g2.tr g3).tr g4) (fun _ => ⟨f, ps, rfl, rq⟩) fun z => nomatch z
      | _ => cases e
    · rw [tstMade ok] at e
      exact go F3 H3 vp (g2.tr g3) (fun z => by rw [e] at z; cases z) fun _ => rp.at g3.ff
  clear rp g2 z0 g1 vp
  intro F3 H3 vp g3 hb1 hb2
  have z0 := r0.at g3.ff
  rw [enc_eq] at z0
  have zB : R K F3 (.ref aB) (.tuple [.str "all", .str "some"]) := .tup (lB F3) (.cons (.str _) (.cons (.str _) .nil))
  refine q_when (eb_test (ed_op (ed_op (ed_var rfl z0) ed_int (rr_ixT (atI_nat (j := 0) rfl))) (ed_c zB) (rr_inT rfl rfl))) g3.fh (fun e F4 H4 g4 => ?_) (fun e F4 H4 g4 => ?_)
  · rw [tstBind ok] at e
    have g4 := g3.tr g4
    have z0 := r0.at g4.ff
    rw [enc_eq] at z0
    cases t with
    | bind w kd a =>
      cases ok with
      | bind _ _ _ ha =>
        rw [tl] at z0
        refine (ed_slT (ed_var rfl z0) (eo_some (ed_int (K := K))) eo_none (cut_ok2 _ _ _)).go g4.fh fun vq F5 H5 g5 rq => ?_
        rw [cutD_two] at rq
        refine nw_loop (its := [.inr a]) (g4.tr g5) rq (fun t ht => ?_) ?_ fun p F6 H6 o => ?_
        · rcases List.mem_singleton.mp ht with e
          cases e
          exact ⟨ha, hw⟩
        · have := names_len a
          show (names a ++ []).length ≤ 10000
          rw [List.append_nil]
          exact Nat.le_trans this hw
        · refine q p F6 H6 ?_
          have e : namesI [.inr a] = names a := by show names a ++ [] = _; rw [List.append_nil]
          rw [e] at o
          exact o
    | nbind =>
      cases ok with
      | nbind hv _ _ _ => cases hv
    | _ => cases e
  rw [tstBind ok] at e
  have g4' := g3.tr g4
  cases t with
  | lf l =>
    cases l with
    | name x k => cases ‹sortName (.lf (.name x k)) = false›
    | bound m =>
      refine nw_loop (its := [.inl m]) g4' ((hb2 rfl).at g4.ff) (fun t ht => ?_) (Nat.zero_le _) fun p F6 H6 o => q p F6 H6 o
      rcases List.mem_singleton.mp ht with e
      cases e
    | var m =>
      cases ok with
      | lf _ hi => cases hi
  | made f ps =>
    obtain ⟨f1, ps1, e1, rq⟩ := hb1 rfl
    cases e1
    cases ok with
    | made _ _ hps =>
      rw [encs_map] at rq
      have rq : R K F3 vp (.tuple ((ps.map Sum.inr).map encI)) := by rw [List.map_map]; exact rq
      refine nw_loop (its := ps.map .inr) g4' (rq.at g4.ff) (fun t ht => ?_) ?_ fun p F6 H6 o => ?_
      · obtain ⟨u, hu, e⟩ := List.mem_map.mp ht
        cases e
        exact ⟨hps.mem _ hu, Nat.le_trans (wt_mem hu) hw⟩
      · rw [namesI_inr]
        exact Nat.le_trans (namess_len ps) hw
      · rw [namesI_inr] at o
        exact q p F6 H6 o
  | bind w k a => cases e
  | nbind w k m a => cases e
  | node wd ps =>
    cases ok with
    | node _ _ hps =>
      have rq := hb2 rfl
      rw [tl, encs_map] at rq
      have rq : R K F3 vp (.tuple ((ps.map Sum.inr).map encI)) := by rw [List.map_map]; exact rq
      refine nw_loop (its := ps.map .inr) g4' (rq.at g4.ff) (fun t ht => ?_) ?_ fun p F6 H6 o => ?_
      · obtain ⟨u, hu, e⟩ := List.mem_map.mp ht
        cases e
        exact ⟨hps.mem _ hu, Nat.le_trans (wt_mem hu) hw⟩
      · rw [namesI_inr]
        exact Nat.le_trans (namess_len ps) hw
      · rw [namesI_inr] at o
        exact q p F6 H6 o
theorem ok_nw {f aB : Addr} {fd : FuncData} (D : Df K mg "names_within" sNw ["thing"] f fd) (gB : mg "BINDERS" = some (.ref aB)) (lB : ∀ H, SqT K H aB [.str "all", .str "some"]) (m_isinstance : mg "isinstance" = none) (m_tuple : mg "tuple" = none) : ∀ n, FnOk P w K mg base CX0 (n + 1) f fd ["thing"] (SpL K (ANw n)) := by
  intro n
  induction n with
  | zero =>
    refine D.F.ok scNw (fun vs H Q E h => ?_) (fun cdv A outer s H vs Q E hr h => ?_)
    · obtain ⟨F, ds, d, _, _, ⟨t, h, _⟩, _⟩ := h
      cases h
    · obtain ⟨F, ds, d, _, _, ⟨t, h, _⟩, _⟩ := h
      cases h
  | succ n ih =>
    refine D.F.ok scNw (fun vs H Q E h => ?_) (fun cdv A outer s H vs Q E hr h => ⟨tNw K (SpL K (ANw n)) aB, ?_, pure_nw lB vs H Q E h⟩)
    · obtain ⟨F, ds, d, _, r, ⟨t, _, _, rfl, _⟩, _⟩ := h
      exact r.len
    · exact (pss_cons (ps_if (pt_cmpR op_eq (pe_ix ix_tup (pv 0) pe_int (fun _ _ => rfl)) pe_str (nomark _)) (pss_one (ps_ret (pe_lst (pa_cons (pe_tup (pa_cons (pe_ix ix_tup (pv 0) pe_int (fun _ _ => rfl)) (pa_cons (pe_ix ix_tup (pv 0) pe_int (fun _ _ => rfl)) pa_nil))) pa_nil)))) pss_nil)
    (pss_cons (ps_set (i := 1) scNw.nd rfl (Or.inl rfl) (pe_slice sl_tup (pv 0) (po_some pe_int) po_none))
    (pss_cons (ps_if (pt_cmpR op_eq (pe_ix ix_tup (pv 0) pe_int (fun _ _ => rfl)) pe_str (nomark _)) (pss_one (ps_set (i := 1) scNw.nd rfl (Or.inl rfl) (pe_ix ix_tup (pv 0) pe_int (fun _ _ => rfl)))) pss_nil)
    (pss_cons (ps_if (pt_cmpR op_in_seq (pe_ix ix_tup (pv 0) pe_int (fun _ _ => rfl)) (pe_glob (v := .ref aB) (by rfl) gB rfl) (by rfl)) (pss_one (ps_set (i := 1) scNw.nd rfl (Or.inl rfl) (pe_slice sl_tup (pv 0) (po_some pe_int) po_none))) pss_nil)
    (pss_cons (ps_set (i := 2) scNw.nd rfl (Or.inl rfl) (pe_lst pa_nil))
    (pss_cons (ps_for PassesOwn.never (by rfl) (pi_tup (pv 1)) (pg_name (i := 3) scNw.nd rfl (Or.inl rfl)) (pss_one (ps_if (pt_val (pe_callB call_isi (by rfl) m_isinstance (by decide +kernel) (pa_cons (pv 3) (pa_cons (pe_bltn (v := .ty "tuple") (by rfl) m_tuple (by decide +kernel) rfl) pa_nil)))) (pss_one (ps_expr (pe_bm PySem.F.plainAttrs_list PySem.F.slot_list_extend PySem.F.type_list_extend mt_extend (pv 2) (pa_cons (pe_call ih hr (by rfl) D.g D.F.kp D.b .nil pass0 (pa_cons (pv 3) pa_nil)) pa_nil)))) pss_nil)))
    (pss_one (ps_ret (pv 2)))))))))
end
abbrev sFi : Stmt := topS 7
theorem scFi : FnScope ["sayings", "found", "saying"] ["sayings"] (defScope sFi) := ⟨rfl, rfl, rfl, by decide +kernel, rfl, by decide +kernel, by decide +kernel⟩
def tFi (K : PySem.W.Frag) (P : Program) (w : World) (sp : Sp) : TS :=
  (tSeq (tAsg (tLst tNil) (gName 1))
  (tSeq (tFor (iList K (tVar 0)) (gName 2) (tDrop (tBM K "list" rExtend (tVar 1) (tCons (tCall sp [] E0 (tCons (tVar 2) tNil)) tNil))))
  (tRet (tCB (SetK.rSortedS K P w) (tCons (tCB (SetK.rSetS K P w) (tCons (tVar 1) tNil)) tNil)))))
/-- what free_in gives -/
def AFi (n : Nat) (ds es : List PyData) : Prop := ∃ ts : List Th, (∀ t ∈ ts, Ok false n t) ∧ ts.length ≤ 1000 ∧ wts ts ≤ 10000 ∧ SetK.FewS (namess ts) ∧ ds = [.list (ts.map enc)] ∧ es = (SetK.sset (namess ts)).map SetK.encT
mutual
theorem names_ne : ∀ (t : Th) (x : List Str), x ∈ names t → x ≠ []
  | .lf (.name _ _), x, h => by
    rw [List.mem_singleton.mp h]
    exact fun z => nomatch z
  | .lf (.bound _), x, h => nomatch h
  | .lf (.var _), x, h => nomatch h
  | .made _ ps, x, h => namess_ne ps x h
  | .bind _ _ a, x, h => names_ne a x h
  | .nbind _ _ _ a, x, h => names_ne a x h
  | .node _ ps, x, h => namess_ne ps x h
theorem namess_ne : ∀ (ts : List Th) (x : List Str), x ∈ namess ts → x ≠ []
  | t :: ts, x, h => by
    rcases List.mem_append.mp h with h | h
    · exact names_ne t x h
    · exact namess_ne ts x h
end
section
variable {P : Program} {w : World} {K : PySem.W.Frag} {mg : Str → Option Value} {base : Heap}
theorem pure_fi {n : Nat} (vs : List V) (H : Hp) (Q : VK) (E : XK) (h : SpL K (AFi n) vs H Q E) : tFi K P w (SpL K (ANw n)) { nx := fun _ H' => Q .non H', rt := Q } (start ["sayings", "found", "saying"] vs) H := by
  obtain ⟨F, ds, es, s, r, ⟨ts, ok, hl, hw, few, rfl, rfl⟩, q⟩ := h
  obtain ⟨v0, rfl, r0⟩ := r.one
  refine q_own (K := K) (.refl s) ea_nil (by simp) fun p F2 H2 o s12 => ?_
  refine q_forL (ed_var rfl (r0.at s12)) o.gr.fh fun F3 H3 g3 => ?_
  refine ⟨fun i σ2 H4 => ∃ F4 y, σ2 = [some v0, some (.ref p), y] ∧ Same F3 F4 ∧ Own K F H F4 H4 p ((namess (ts.take i)).map SetK.encT), ⟨F3, none, rfl, fun _ _ e => e, o.more g3⟩, fun i σ2 H4 ⟨F4, y, _, s, o4⟩ => ⟨F4, o4.gr.fh, s⟩, ?_, ?_⟩
  · rintro i x d σ2 H4 hd rx ⟨F4, y, rfl, s, o4⟩
    obtain ⟨t, ht, rfl⟩ := get_map hd
    have hm := List.mem_of_getElem? ht
    have et : ts.take (i + 1) = ts.take i ++ [t] := by rw [List.take_succ, ht]; rfl
    have rt := rx.at s
    have hwt := wt_mem hm
    refine own_extend o4 rfl (ed_callL (ea_cons (ed_var rfl rt) ea_nil) ⟨t, ok t hm, by omega, rfl, rfl⟩) ?_ fun F6 H6 o6 s6 => ?_
    · have h1 := namess_len (ts.take i)
      have h2 := wts_take ts i
      have h3 := names_len t
      rw [List.length_map, List.length_map]
      omega
    · refine ⟨F6, some x, rfl, s.trans s6, ?_⟩
      rw [et, namess_app]
      show Own K F H F6 H6 p ((namess (ts.take i) ++ (names t ++ [])).map SetK.encT)
      rw [List.append_nil, List.map_append]
      exact o6
  · rintro σ2 H4 ⟨F4, y, rfl, s4, o4⟩
    rw [List.length_map, List.take_length] at o4
    obtain ⟨acc, h1, h2, ra⟩ := o4.ex
    exact sset_wp o4.gr rfl (.inl (.inl h1)) ra few (fun x hx => namess_ne ts x hx) fun p F5 H5 o5 _ _ => q p F5 H5 o5
theorem ok_fi {f fN : Addr} {fd fdN : FuncData} {n k : Nat} (hk : n + 1 ≤ k) (D : Df K mg "free_in" sFi ["sayings"] f fd) (DN : Df K mg "names_within" sNw ["thing"] fN fdN) (GN : FnOk P w K mg base CX0 (n + 1) fN fdN ["thing"] (SpL K (ANw n))) (m_set : mg "set" = none) (m_sorted : mg "sorted" = none) : FnOk P w K mg base CX0 (k + 1) f fd ["sayings"] (SpL K (AFi n)) := by
  refine D.F.ok scFi (fun vs H Q E h => ?_) (fun cdv A outer s H vs Q E hr h => ⟨tFi K P w (SpL K (ANw n)), ?_, pure_fi vs H Q E h⟩)
  · obtain ⟨F, ds, d, _, r, ⟨ts, _, _, _, _, rfl, _⟩, _⟩ := h
    exact r.len
  · have huS : (A.deeper (envOfC "free_in" (defScope sFi) s.heap.objs.size f cdv)).units + 100 < cLine := by
      have := hr.un
      omega
    exact (pss_cons (ps_set (i := 1) scFi.nd rfl (Or.inl rfl) (pe_lst pa_nil))
    (pss_cons (ps_for PassesOwn.never (by rfl) (pi_list (pv 0)) (pg_name (i := 2) scFi.nd rfl (Or.inl rfl)) (pss_one (ps_expr (pe_bm PySem.F.plainAttrs_list PySem.F.slot_list_extend PySem.F.type_list_extend mt_extend (pv 1) (pa_cons (pe_call GN (hr.mono (by omega)) (by rfl) DN.g DN.F.kp DN.b .nil pass0 (pa_cons (pv 2) pa_nil)) pa_nil)))))
    (pss_one (ps_ret (pe_callB (SetK.cr_sortedS (by rfl) huS) (by rfl) m_sorted (by decide +kernel) (pa_cons (pe_callTy (SetK.cr_setS (by rfl) huS) (by rfl) m_set (by decide +kernel) (pa_cons (pv 1) pa_nil)) pa_nil))))))
end
end Wk
namespace Tm
open PySem
theorem exchs_len (o : Option Lf) (b : Option Th) (k : Nat) (ts : List Th) : (exchs o b k ts).length = ts.length := by rw [exchs_map, List.length_map]
theorem lexchs_len (o : Lf) (b : Th) (ts : List Th) : (lexchs o b ts).length = ts.length := by rw [lexchs_map, List.length_map]
theorem nameds_len (ar : List Nat) (ts : List Th) : (nameds ar ts).length = ts.length := by rw [nameds_map, List.length_map]
theorem unnameds_len (ar : List Nat) (ts : List Th) : (unnameds ar ts).length = ts.length := by rw [unnameds_map, List.length_map]
mutual
theorem named_ok : ∀ {n : Nat} {t : Th} (ar : List Nat), Ok false n t → Ok true n (named ar t)
  | n + 1, .lf (.name x k), ar, .lf h _ => .lf h trivial
  | n + 1, .lf (.bound m), ar, .lf h _ => .lf trivial rfl
  | n + 1, .lf (.var m), ar, .lf h hi => by cases hi
  | n + 1, .made f ps, ar, .made h k r => .made h (by rw [nameds_len]; exact k) (nameds_ok ar r)
  | n + 1, .bind w q a, ar, .bind _ h k r => .nbind rfl h k (named_ok (ar.length :: ar) r)
  | n + 1, .nbind w q m a, ar, .nbind hv _ _ _ => by cases hv
  | n + 1, .node w ps, ar, .node h k r => .node h (by rw [nameds_len]; exact k) (nameds_ok ar r)
theorem nameds_ok : ∀ {n : Nat} {ts : List Th} (ar : List Nat), Oks false n ts → Oks true n (nameds ar ts)
  | _, [], _, .nil => .nil
  | _, t :: ts, ar, .cons h r => .cons (named_ok ar h) (nameds_ok ar r)
end
mutual
theorem lexch_ok {m : Nat} {b : Th} (hb : Ok true m b) (o : Lf) : ∀ {n : Nat} {t : Th}, Ok true n t → Ok true (n + m) (lexch o b t)
  | n + 1, .lf l, .lf h hi => by
    rw [lexch]
    split
    · exact hb.up (by omega)
    · exact Ok.up (n := n + 1) (.lf h hi) (by omega)
  | n + 1, .made f ps, .made h k r => by
    rw [show n + 1 + m = n + m + 1 by omega]
    exact .made h (by rw [lexchs_len]; exact k) (lexchs_ok hb o r)
  | n + 1, .bind w q a, .bind hv _ _ _ => by cases hv
  | n + 1, .nbind w q i a, .nbind hv h k r => by
    rw [show n + 1 + m = n + m + 1 by omega]
    exact .nbind hv h k (lexch_ok hb o r)
  | n + 1, .node w ps, .node h k r => by
    rw [show n + 1 + m = n + m + 1 by omega]
    exact .node h (by rw [lexchs_len]; exact k) (lexchs_ok hb o r)
theorem lexchs_ok {m : Nat} {b : Th} (hb : Ok true m b) (o : Lf) : ∀ {n : Nat} {ts : List Th}, Oks true n ts → Oks true (n + m) (lexchs o b ts)
  | _, [], .nil => .nil
  | _, t :: ts, .cons h r => .cons (lexch_ok hb o h) (lexchs_ok hb o r)
end
mutual
theorem exch_ok {m : Nat} {b : Option Th} (hb : ∀ T, b = some T → Ok false m T) (hm : 1 ≤ m) (o : Option Lf) : ∀ {n : Nat} {t : Th} (k : Nat), Ok false n t → Ok false (n + m) (exch o b k t)
  | n + 1, .lf l, k, .lf h hi => by
    rw [exch]
    split
    · cases b with
      | none => exact Ok.up (n := 1) (.lf trivial rfl) (by omega)
      | some T => exact (hb T rfl).up (by omega)
    · exact Ok.up (n := n + 1) (.lf h hi) (by omega)
  | n + 1, .made f ps, k, .made h l r => by
    rw [show n + 1 + m = n + m + 1 by omega]
    exact .made h (by rw [exchs_len]; exact l) (exchs_ok hb hm o k r)
  | n + 1, .bind w q a, k, .bind hv h l r => by
    rw [show n + 1 + m = n + m + 1 by omega]
    exact .bind hv h l (exch_ok hb hm o (k + 1) r)
  | n + 1, .nbind w q i a, k, .nbind hv _ _ _ => by cases hv
  | n + 1, .node w ps, k, .node h l r => by
    rw [show n + 1 + m = n + m + 1 by omega]
    exact .node h (by rw [exchs_len]; exact l) (exchs_ok hb hm o k r)
theorem exchs_ok {m : Nat} {b : Option Th} (hb : ∀ T, b = some T → Ok false m T) (hm : 1 ≤ m) (o : Option Lf) : ∀ {n : Nat} {ts : List Th} (k : Nat), Oks false n ts → Oks false (n + m) (exchs o b k ts)
  | _, [], _, .nil => .nil
  | _, t :: ts, k, .cons h r => .cons (exch_ok hb hm o k h) (exchs_ok hb hm o k r)
end
mutual
/-- all named ones are called so around -/
inductive Vr : List Nat → Th → Prop
  | name {ar : List Nat} (x k : Str) : Vr ar (.lf (.name x k))
  | var {ar : List Nat} {n : Nat} : n ∈ ar → Vr ar (.lf (.var n))
  | made {ar : List Nat} {f : Str} {ps : List Th} : Vrs ar ps → Vr ar (.made f ps)
  | nbind {ar : List Nat} {w k : Str} {n : Nat} {a : Th} : Vr (n :: ar) a → Vr ar (.nbind w k n a)
  | node {ar : List Nat} {w : Str} {ps : List Th} : Vrs ar ps → Vr ar (.node w ps)
inductive Vrs : List Nat → List Th → Prop
  | nil {ar : List Nat} : Vrs ar []
  | cons {ar : List Nat} {t : Th} {ts : List Th} : Vr ar t → Vrs ar ts → Vrs ar (t :: ts)
end
theorem Vrs.mem {ar : List Nat} : ∀ {ts : List Th}, Vrs ar ts → ∀ t ∈ ts, Vr ar t
  | _, .cons h r, t, m => by
    rcases List.mem_cons.mp m with rfl | m
    · exact h
    · exact r.mem t m
theorem Cls.mem {k : Nat} : ∀ {ts : List Th}, Cls k ts → ∀ t ∈ ts, Cl k t
  | _, .cons h r, t, m => by
    rcases List.mem_cons.mp m with rfl | m
    · exact h
    · exact r.mem t m
mutual
theorem tc_vr : ∀ {t : Th} (ar : List Nat), Tc t → Vr ar t
  | _, ar, .name x k => .name x k
  | _, ar, .made h => .made (tcs_vr ar h)
theorem tcs_vr : ∀ {ts : List Th} (ar : List Nat), Tcs ts → Vrs ar ts
  | _, ar, .nil => .nil
  | _, ar, .cons h r => .cons (tc_vr ar h) (tcs_vr ar r)
end
mutual
theorem tc_ok : ∀ {n : Nat} {t : Th}, Tc t → Ok false n t → Ok true n t
  | n + 1, .lf (.name x k), _, .lf h _ => .lf h trivial
  | n + 1, .made f ps, .made r, .made h k s => .made h k (tcs_ok r s)
theorem tcs_ok : ∀ {n : Nat} {ts : List Th}, Tcs ts → Oks false n ts → Oks true n ts
  | _, [], _, _ => .nil
  | _, t :: ts, .cons h r, .cons k s => .cons (tc_ok h k) (tcs_ok r s)
end
theorem mem_up1 : ∀ m j, 1 ≤ j → j ≤ m → j ∈ up1 m
  | 0, j, h, k => by omega
  | m + 1, j, h, k => by
    rw [up1]
    by_cases e : j = m + 1
    · rw [e]; exact List.mem_cons_self
    · exact List.mem_cons_of_mem _ (mem_up1 m j h (by omega))
theorem mem_dn : ∀ m j, j ≤ m → j ∈ dn m
  | 0, j, k => by
    have : j = 0 := by omega
    subst this
    exact List.mem_cons_self
  | m + 1, j, k => by
    rw [dn_succ]
    by_cases e : j = m + 1
    · rw [e]; exact List.mem_cons_self
    · exact List.mem_cons_of_mem _ (mem_dn m j (by omega))
mutual
theorem vr_open {T : Th} (hT : Tc T) : ∀ {t : Th} (m : Nat), Cl (m + 1) t → Vr (up1 m) (lexch (.var 0) T (named (dn m) t))
  | _, m, .name x k => by
    show Vr (up1 m) (lexch _ T (.lf (.name x k)))
    rw [lexch, if_neg (by simp)]
    exact .name x k
  | _, m, .bound (n := n) h => by
    show Vr (up1 m) (lexch _ T (.lf (.var ((dn m).getD n 0))))
    rw [dn_get m n (by omega), lexch]
    split
    · exact tc_vr _ hT
    · rename_i e
      have e1 : m - n ≠ 0 := fun z => e (by rw [z])
      exact .var (mem_up1 m _ (by omega) (by omega))
  | _, m, .made h => by rw [named, lexch]; exact .made (vrs_open hT m h)
  | _, m, .bind h => by
    rw [named, lexch, dn_len, ← dn_succ]
    exact .nbind (vr_open hT (m + 1) h)
  | _, m, .node h => by rw [named, lexch]; exact .node (vrs_open hT m h)
theorem vrs_open {T : Th} (hT : Tc T) : ∀ {ts : List Th} (m : Nat), Cls (m + 1) ts → Vrs (up1 m) (lexchs (.var 0) T (nameds (dn m) ts))
  | _, m, .nil => .nil
  | _, m, .cons h r => .cons (vr_open hT m h) (vrs_open hT m r)
end
mutual
theorem vr_dn {b : Th} (x k : Str) (hb : ∀ m, Vr (dn m) b) : ∀ {t : Th} (m : Nat), Cl m t → Vr (dn m) (lexch (.name x k) b (named (dn m) t))
  | _, m, .name y l => by
    show Vr (dn m) (lexch _ b (.lf (.name y l)))
    rw [lexch]
    split
    · exact hb m
    · exact .name y l
  | _, m, .bound (n := n) h => by
    show Vr (dn m) (lexch _ b (.lf (.var ((dn m).getD n 0))))
    rw [dn_get m n (by omega), lexch, if_neg (by simp)]
    exact .var (mem_dn m _ (by omega))
  | _, m, .made h => by rw [named, lexch]; exact .made (vrs_dn x k hb m h)
  | _, m, .bind h => by
    rw [named, lexch, dn_len, ← dn_succ]
    have z := vr_dn x k hb (m + 1) h
    refine .nbind ?_
    rw [← dn_succ]
    exact z
  | _, m, .node h => by rw [named, lexch]; exact .node (vrs_dn x k hb m h)
theorem vrs_dn {b : Th} (x k : Str) (hb : ∀ m, Vr (dn m) b) : ∀ {ts : List Th} (m : Nat), Cls m ts → Vrs (dn m) (lexchs (.name x k) b (nameds (dn m) ts))
  | _, m, .nil => .nil
  | _, m, .cons h r => .cons (vr_dn x k hb m h) (vrs_dn x k hb m r)
end
mutual
theorem cl_up : ∀ {t : Th} {m n : Nat}, Cl m t → m ≤ n → Cl n t
  | _, _, _, .name x k, _ => .name x k
  | _, _, _, .bound h, e => .bound (by omega)
  | _, _, _, .made h, e => .made (cls_up h e)
  | _, _, _, .bind h, e => .bind (cl_up h (by omega))
  | _, _, _, .node h, e => .node (cls_up h e)
theorem cls_up : ∀ {ts : List Th} {m n : Nat}, Cls m ts → m ≤ n → Cls n ts
  | _, _, _, .nil, _ => .nil
  | _, _, _, .cons h r, e => .cons (cl_up h e) (cls_up r e)
end
mutual
theorem tc_cl : ∀ {t : Th} (m : Nat), Tc t → Cl m t
  | _, m, .name x k => .name x k
  | _, m, .made h => .made (tcs_cl m h)
theorem tcs_cl : ∀ {ts : List Th} (m : Nat), Tcs ts → Cls m ts
  | _, m, .nil => .nil
  | _, m, .cons h r => .cons (tc_cl m h) (tcs_cl m r)
end
mutual
/-- an opened body is closed -/
theorem cl_open {T : Th} (hT : Tc T) : ∀ {t : Th} (m : Nat), Cl (m + 1) t → Cl m (exch none (some T) m t)
  | _, m, .name x k => by
    rw [exch, if_neg (by simp)]
    exact .name x k
  | _, m, .bound (n := n) h => by
    rw [exch]
    split
    · exact tc_cl m hT
    · rename_i e
      have e1 : n ≠ m := fun z => e (by rw [z]; rfl)
      exact .bound (by omega)
  | _, m, .made h => by rw [exch]; exact .made (cls_open hT m h)
  | _, m, .bind h => by rw [exch]; exact .bind (cl_open hT (m + 1) h)
  | _, m, .node h => by rw [exch]; exact .node (cls_open hT m h)
theorem cls_open {T : Th} (hT : Tc T) : ∀ {ts : List Th} (m : Nat), Cls (m + 1) ts → Cls m (exchs none (some T) m ts)
  | _, m, .nil => .nil
  | _, m, .cons h r => .cons (cl_open hT m h) (cls_open hT m r)
end
end Tm
namespace Wk
open PySem PySem.Spec PyProof.Rows L2 Ly Tm
abbrev sNa : Stmt := topS 19
theorem scNa : FnScope ["_law_thing", "_law_around", "_law_word_here", "_law_part"] ["_law_thing", "_law_around"] (defScope sNa) := ⟨rfl, rfl, rfl, by decide +kernel, rfl, by decide +kernel, by decide +kernel⟩
def tNa (K : PySem.W.Frag) (sp : Sp) : TS :=
  (tSeq (tAsg (tOp (rIxT K) (tVar 0) (tC (.int 0))) (gName 2))
  (tSeq (tIfS (tTest (tOp rEq (tVar 2) (tC (.str "bound")))) (tRet (tTup (tCons (tC (.str "var")) (tCons (tOp (rIxL K) (tVar 1) (tOp (rIxT K) (tVar 0) (tC (.int 1)))) tNil)))) tNext)
  (tSeq (tIfS (tTest (tOp rEq (tVar 2) (tC (.str "name")))) (tRet (tVar 0)) tNext)
  (tSeq (tIfS (tTest (tOp rEq (tVar 2) (tC (.str "made")))) (tRet (tTup (tCons (tC (.str "made")) (tCons (tOp (rIxT K) (tVar 0) (tC (.int 1))) (tCons (tCB (rTupOf K) (tCons (tLc (iTup K (tOp (rIxT K) (tVar 0) (tC (.int 2)))) (gName 3) tYes (tCall sp [] E0 (tCons (tVar 3) (tCons (tVar 1) tNil))) [3]) tNil)) tNil))))) tNext)
  (tSeq (tIfS (tTest (tOp (rIn K false) (tVar 2) (tLst (tCons (tC (.str "all")) (tCons (tC (.str "some")) tNil))))) (tRet (tTup (tCons (tVar 2) (tCons (tOp (rIxT K) (tVar 0) (tC (.int 1))) (tCons (tCB (rLenOf K) (tCons (tVar 1) tNil)) (tCons (tCall sp [] E0 (tCons (tOp (rIxT K) (tVar 0) (tC (.int 2))) (tCons (tOp rCat (tLst (tCons (tCB (rLenOf K) (tCons (tVar 1) tNil)) tNil)) (tVar 1)) tNil))) tNil)))))) tNext)
  (tRet (tOp (rCatT K) (tTup (tCons (tVar 2) tNil)) (tCB (rTupOf K) (tCons (tLc (iTup K (tSl (rSlT K) (tVar 0) (tPart (tC (.int 1))) tNoPart)) (gName 3) tYes (tCall sp [] E0 (tCons (tVar 3) (tCons (tVar 1) tNil))) [3]) tNil)))))))))
def encN (m : Nat) : PyData := .int m
def ANa (n : Nat) (ds : List PyData) (d : PyData) : Prop := ∃ (t : Th) (ar : List Nat), n ≤ 30 ∧ Ok false n t ∧ Cl ar.length t ∧ ar.length + n ≤ 100 ∧ ds = [enc t, .list (ar.map encN)] ∧ d = enc (named ar t)
theorem atI_map {α : Type} {ar : List α} {f : α → PyData} {m : Nat} {x : α} (h : ar[m]? = some x) : atI (ar.map f) (m : Int) = some (f x) := atI_nat (by rw [List.getElem?_map, h]; rfl)
section
variable {P : Program} {w : World} {K : PySem.W.Frag} {mg : Str → Option Value} {base : Heap}
theorem pure_Na {n : Nat} (vs : List V) (H : Hp) (Q : VK) (E : XK) (h : SpD K (ANa (n + 1)) vs H Q E) : tNa K (SpD K (ANa n)) { nx := fun _ H' => Q .non H', rt := Q } (start ["_law_thing", "_law_around", "_law_word_here", "_law_part"] vs) H := by
  obtain ⟨F, ds, d, s, r, ⟨t, ar, hn, ok, cl, hl, rfl, rfl⟩, q⟩ := h
  obtain ⟨v0, v1, rfl, r0, r1⟩ := r.two
  have z0 := r0
  rw [enc_eq] at z0
  -- word = thing[0]
  refine q_set (ed_op (ed_var rfl z0) ed_int (rr_ixT (atI_nat (j := 0) rfl))) s fun v2 F1 H1 g1 r2 => ?_
  -- word == 'bound'
  refine q_when (eb_test (ed_op (ed_var rfl r2) ed_str rr_eqS)) g1.fh (fun e F2 H2 g2 => ?_) (fun e F2 H2 g2 => ?_)
  · rw [tstBound ok] at e
    have g2 := g1.tr g2
    cases t with
    | lf l =>
      cases l with
      | bound m =>
        cases cl with
        | bound hm =>
          have z0 : R K F2 v0 (.tuple [.str "bound", .int m]) := r0.at g2.ff
          have e1 : ar[m]? = some (ar.getD m 0) := by
            rw [List.getD_eq_getElem?_getD, List.getElem?_eq_getElem hm]
            rfl
          exact q_ret (d := enc (named ar (.lf (.bound m)))) (ed_tup (ea_cons ed_str (ea_cons (ed_op (ed_var rfl (r1.at g2.ff)) (ed_op (ed_var rfl z0) ed_int (rr_ixT (atI_nat (j := 1) rfl))) (rr_ixL (atI_map e1))) ea_nil)) (by simp)) g2.fh fun v F3 H3 g3 r3 => q v F3 H3 (g2.tr g3) r3
      | _ => cases e
    | _ => cases e
  rw [tstBound ok] at e
  have nb := e
  have g2' := g1.tr g2
  -- word == 'name'
  refine q_when (eb_test (ed_op (ed_var rfl (r2.at g2.ff)) ed_str rr_eqS)) g2'.fh (fun e F3 H3 g3 => ?_) (fun e F3 H3 g3 => ?_)
  · rw [tstName ok] at e
    cases t with
    | lf l =>
      cases l with
      | name x k => exact ⟨v0, rfl, q v0 F3 H3 (g2'.tr g3) (r0.at (g2'.tr g3).ff)⟩
      | _ => cases e
    | _ => cases e
  rw [tstName ok] at e
  have nn := e
  have g3' := g2'.tr g3
  have r2 := r2.at (g2.tr g3).ff
  -- word == 'made'
  refine q_when (eb_test (ed_op (ed_var rfl r2) ed_str rr_eqS)) g3'.fh (fun e F4 H4 g4 => ?_) (fun e F4 H4 g4 => ?_)
  · rw [tstMade ok] at e
    have g4 := g3'.tr g4
    have z0 := r0.at g4.ff
    have z1 := r1.at g4.ff
    cases t with
    | made f ps =>
      cases ok with
      | made hf hk hps =>
        cases cl with
        | made hc =>
          rw [named, nameds_map] at q
          rw [enc_eq, tl, encs_map] at z0
          refine q_ret (d := enc (.made f (ps.map (named ar)))) ?_ g4.fh fun v F5 H5 g5 r5 => q v F5 H5 (g4.tr g5) r5
          rw [enc, encs_map, List.map_map]
          refine ed_tup (ea_cons ed_str (ea_cons (ed_op (ed_var rfl z0) ed_int (rr_ixT (atI_nat (j := 1) rfl))) (ea_cons (ed_cb (ea_cons (ed_lcT (ed_op (ed_var rfl z0) ed_int (rr_ixT (atI_nat (j := 2) rfl))) (by omega) (fun _ => rfl) fun a x F5 H5 ha g5 rx => ?_) ea_nil) rc_tupleL) ea_nil))) (by simp)
          exact ed_call (ea_cons (ed_var rfl rx) (ea_cons (ed_var rfl (z1.at g5.ff)) ea_nil)) ⟨a, ar, by omega, hps.mem a ha, hc.mem a ha, by omega, rfl, rfl⟩
    | _ => cases e
  rw [tstMade ok] at e
  have nm := e
  have g4' := g3'.tr g4
  have r2 := r2.at g4.ff
  -- word in ['all', 'some']
  refine q_when (eb_test (ed_op (ed_var rfl r2) (ed_lst (ea_cons ed_str (ea_cons ed_str ea_nil)) (by simp)) (rr_inL rfl rfl))) g4'.fh (fun e F5 H5 g5 => ?_) (fun e F5 H5 g5 => ?_)
  · rw [tstBind ok] at e
    have g5' := g4'.tr g5
    have z0 := r0.at g5'.ff
    have z1 := r1.at g5'.ff
    have r2 := r2.at g5.ff
    cases t with
    | bind w kd a =>
      cases ok with
      | bind _ hw hk ha =>
        cases cl with
        | bind hc =>
          rw [named] at q
          rw [enc_eq, tl] at z0
          have ln : (List.map encN ar).length = ar.length := List.length_map ..
          have eL : ED K (tCB (rLenOf K) (tCons (tVar 1) tNil)) [some v0, some v1, some v2, none] F5 H5 (encN ar.length) := by
            have z := ed_cb (σ := [some v0, some v1, some v2, none]) (ea_cons (ed_var (i := 1) rfl z1) ea_nil) (rc_lenL (F := F5) (H := H5))
            rw [ln] at z
            exact z
          refine q_ret (d := enc (.nbind w kd ar.length (named (ar.length :: ar) a))) (ed_tup (ea_cons (ed_var rfl r2) (ea_cons (ed_op (ed_var rfl z0) ed_int (rr_ixT (atI_nat (j := 1) rfl))) (ea_cons eL (ea_cons ?_ ea_nil)))) (by simp)) g5'.fh fun v F6 H6 g6 r6 => q v F6 H6 (g5'.tr g6) r6
          refine ed_call (ea_cons (ed_op (ed_var rfl z0) ed_int (rr_ixT (atI_nat (j := 2) rfl))) (ea_cons (ed_op (ed_lst (ea_cons eL ea_nil) (by simp)) (ed_var rfl z1) (rr_cat (by rw [ln]; simp; omega))) ea_nil)) ⟨a, ar.length :: ar, by omega, ha, hc, by rw [List.length_cons]; omega, rfl, rfl⟩
    | nbind =>
      cases ok with
      | nbind hv _ _ _ => cases hv
    | _ => cases e
  rw [tstBind ok] at e
  have g5' := g4'.tr g5
  have z0 := r0.at g5'.ff
  have z1 := r1.at g5'.ff
  have r2 := r2.at g5.ff
  cases t with
  | node wd ps =>
    cases ok with
    | node hw hk hps =>
      cases cl with
      | node hc =>
        rw [named, nameds_map] at q
        rw [enc_eq, tl, encs_map] at z0
        refine q_ret (d := enc (.node wd (ps.map (named ar)))) ?_ g5'.fh fun v F6 H6 g6 r6 => q v F6 H6 (g5'.tr g6) r6
        rw [enc, encs_map, List.map_map]
        have cut : cutD (PyData.str (hd (.node wd ps)) :: ps.map enc) (some 1) none = ps.map enc := cutD_one _ _
        refine ed_op (ed_tup (ea_cons (ed_var rfl r2) ea_nil) (by simp)) (ed_cb (ea_cons (ed_lcT (e := enc) (f := fun a => enc (named ar a)) (xs := ps) ?_ (by omega) (fun _ => rfl) fun a x F6 H6 ha g6 rx => ?_) ea_nil) rc_tupleL) (rr_catT (by simp) (by simp; omega))
        · rw [← cut]
          exact ed_slT (ed_var rfl z0) (eo_some (ed_int (K := K))) eo_none (cut_ok _ _)
        · exact ed_call (ea_cons (ed_var rfl rx) (ea_cons (ed_var rfl (z1.at g6.ff)) ea_nil)) ⟨a, ar, by omega, hps.mem a ha, hc.mem a ha, by omega, rfl, rfl⟩
  | lf l =>
    cases l with
    | name x k => cases nn
    | bound m => cases nb
    | var m =>
      cases ok with
      | lf _ hi => cases hi
  | made f ps => cases nm
  | bind w k a => cases e
  | nbind w k m a => cases e
theorem ok_Na {f : Addr} {fd : FuncData} (D : Df K mg "_law_named" sNa ["_law_thing", "_law_around"] f fd) (m_tuple : mg "tuple" = none) (m_len : mg "len" = none) : ∀ n, FnOk P w K mg base CX0 (n + 1) f fd ["_law_thing", "_law_around"] (SpD K (ANa n)) := by
  intro n
  induction n with
  | zero =>
    refine D.F.ok scNa (fun vs H Q E h => ?_) (fun cdv A outer s H vs Q E hr h => ?_)
    · obtain ⟨F, ds, d, _, _, ⟨t, ar, _, h, _⟩, _⟩ := h
      cases h
    · obtain ⟨F, ds, d, _, _, ⟨t, ar, _, h, _⟩, _⟩ := h
      cases h
  | succ n ih =>
    refine D.F.ok scNa (fun vs H Q E h => ?_) (fun cdv A outer s H vs Q E hr h => ⟨tNa K (SpD K (ANa n)), ?_, pure_Na vs H Q E h⟩)
    · obtain ⟨F, ds, d, _, r, ⟨t, ar, _, _, _, _, rfl, _⟩, _⟩ := h
      exact r.len
    · exact (pss_cons (ps_set (i := 2) scNa.nd rfl (Or.inl rfl) (pe_ix ix_tup (pv 0) pe_int (fun _ _ => rfl)))
    (pss_cons (ps_if (pt_cmpR op_eq (pv 2) pe_str (nomark _)) (pss_one (ps_ret (pe_tup (pa_cons pe_str (pa_cons (pe_ix ix_list (pv 1) (pe_ix ix_tup (pv 0) pe_int (fun _ _ => rfl)) (fun _ _ => rfl)) pa_nil))))) pss_nil)
    (pss_cons (ps_if (pt_cmpR op_eq (pv 2) pe_str (nomark _)) (pss_one (ps_ret (pv 0))) pss_nil)
    (pss_cons (ps_if (pt_cmpR op_eq (pv 2) pe_str (nomark _)) (pss_one (ps_ret (pe_tup (pa_cons pe_str (pa_cons (pe_ix ix_tup (pv 0) pe_int (fun _ _ => rfl)) (pa_cons (pe_callTy call_tuple_of (by rfl) m_tuple (by decide +kernel) (pa_cons (pe_lc (own := [("_law_part", 3)]) (g := (gName 3)) (tt := tYes) (by rfl) scNa.nd (pi_tup (pe_ix ix_tup (pv 0) pe_int (fun _ _ => rfl))) (blkOk_by (own := [("_law_part", 3)]) (N := ["_law_thing", "_law_around", "_law_word_here", "_law_part"]) (sc := defScope sNa) (by decide +kernel)) (fun _ _ _ _ _ => (pg_name (i := 3) scNa.nd rfl (Or.inl rfl))) (fun _ _ _ _ _ => pts_nil) (fun _ _ _ _ _ => (pe_call ih hr (by rfl) D.g D.F.kp D.b .nil pass0 (pa_cons (pv 3) (pa_cons (pv 1) pa_nil))))) pa_nil)) pa_nil)))))) pss_nil)
    (pss_cons (ps_if (pt_cmpR op_in_seq (pv 2) (pe_lst (pa_cons pe_str (pa_cons pe_str pa_nil))) (by rfl)) (pss_one (ps_ret (pe_tup (pa_cons (pv 2) (pa_cons (pe_ix ix_tup (pv 0) pe_int (fun _ _ => rfl)) (pa_cons (pe_callB call_len_seq (by rfl) m_len (by decide +kernel) (pa_cons (pv 1) pa_nil)) (pa_cons (pe_call ih hr (by rfl) D.g D.F.kp D.b .nil pass0 (pa_cons (pe_ix ix_tup (pv 0) pe_int (fun _ _ => rfl)) (pa_cons (pe_op op_cat (pe_lst (pa_cons (pe_callB call_len_seq (by rfl) m_len (by decide +kernel) (pa_cons (pv 1) pa_nil)) pa_nil)) (pv 1)) pa_nil))) pa_nil))))))) pss_nil)
    (pss_one (ps_ret (pe_op op_catT (pe_tup (pa_cons (pv 2) pa_nil)) (pe_callTy call_tuple_of (by rfl) m_tuple (by decide +kernel) (pa_cons (pe_lc (own := [("_law_part", 3)]) (g := (gName 3)) (tt := tYes) (by rfl) scNa.nd (pi_tup (pe_slice sl_tup (pv 0) (po_some pe_int) po_none)) (blkOk_by (own := [("_law_part", 3)]) (N := ["_law_thing", "_law_around", "_law_word_here", "_law_part"]) (sc := defScope sNa) (by decide +kernel)) (fun _ _ _ _ _ => (pg_name (i := 3) scNa.nd rfl (Or.inl rfl))) (fun _ _ _ _ _ => pts_nil) (fun _ _ _ _ _ => (pe_call ih hr (by rfl) D.g D.F.kp D.b .nil pass0 (pa_cons (pv 3) (pa_cons (pv 1) pa_nil))))) pa_nil))))))))))
end
abbrev sLx : Stmt := topS 20
theorem scLx : FnScope ["_law_thing", "_law_old", "_law_new", "_law_part"] ["_law_thing", "_law_old", "_law_new"] (defScope sLx) := ⟨rfl, rfl, rfl, by decide +kernel, rfl, by decide +kernel, by decide +kernel⟩
def tLx (K : PySem.W.Frag) (sp : Sp) : TS :=
  (tSeq (tIfS (tTest (tOp (rEqD K) (tVar 0) (tVar 1))) (tRet (tVar 2)) tNext)
  (tSeq (tIfS (tTest (tOp (rIn K false) (tOp (rIxT K) (tVar 0) (tC (.int 0))) (tLst (tCons (tC (.str "var")) (tCons (tC (.str "name")) tNil))))) (tRet (tVar 0)) tNext)
  (tSeq (tIfS (tTest (tOp rEq (tOp (rIxT K) (tVar 0) (tC (.int 0))) (tC (.str "made")))) (tRet (tTup (tCons (tC (.str "made")) (tCons (tOp (rIxT K) (tVar 0) (tC (.int 1))) (tCons (tCB (rTupOf K) (tCons (tLc (iTup K (tOp (rIxT K) (tVar 0) (tC (.int 2)))) (gName 3) tYes (tCall sp [] E0 (tCons (tVar 3) (tCons (tVar 1) (tCons (tVar 2) tNil)))) [3]) tNil)) tNil))))) tNext)
  (tSeq (tIfS (tTest (tOp (rIn K false) (tOp (rIxT K) (tVar 0) (tC (.int 0))) (tLst (tCons (tC (.str "all")) (tCons (tC (.str "some")) tNil))))) (tRet (tTup (tCons (tOp (rIxT K) (tVar 0) (tC (.int 0))) (tCons (tOp (rIxT K) (tVar 0) (tC (.int 1))) (tCons (tOp (rIxT K) (tVar 0) (tC (.int 2))) (tCons (tCall sp [] E0 (tCons (tOp (rIxT K) (tVar 0) (tC (.int 3))) (tCons (tVar 1) (tCons (tVar 2) tNil)))) tNil)))))) tNext)
  (tRet (tOp (rCatT K) (tTup (tCons (tOp (rIxT K) (tVar 0) (tC (.int 0))) tNil)) (tCB (rTupOf K) (tCons (tLc (iTup K (tSl (rSlT K) (tVar 0) (tPart (tC (.int 1))) tNoPart)) (gName 3) tYes (tCall sp [] E0 (tCons (tVar 3) (tCons (tVar 1) (tCons (tVar 2) tNil)))) [3]) tNil))))))))
def ALx (n : Nat) (ds : List PyData) (d : PyData) : Prop := ∃ (t : Th) (l : Lf) (b : Th), n ≤ 30 ∧ Ok true n t ∧ LfOk l ∧ ds = [enc t, encL l, enc b] ∧ d = enc (lexch l b t)
section
variable {P : Program} {w : World} {K : PySem.W.Frag} {mg : Str → Option Value} {base : Heap}
theorem pure_Lx {n : Nat} (vs : List V) (H : Hp) (Q : VK) (E : XK) (h : SpD K (ALx (n + 1)) vs H Q E) : tLx K (SpD K (ALx n)) { nx := fun _ H' => Q .non H', rt := Q } (start ["_law_thing", "_law_old", "_law_new", "_law_part"] vs) H := by
  obtain ⟨F, ds, d, s, r, ⟨t, l, b, hn, ok, lo, rfl, rfl⟩, q⟩ := h
  obtain ⟨v0, u, rfl, r0, r⟩ := r.uncons
  obtain ⟨v1, v2, rfl, r1, r2⟩ := r.two
  -- thing == old
  refine q_when (eb_test (ed_op (ed_var rfl r0) (ed_var rfl r1) (rr_eqD (shaped_ok ok hn) (shaped_lf lo)))) s (fun e F1 H1 g1 => ?_) (fun e F1 H1 g1 => ?_)
  · rw [eqv_lf ok] at e
    cases t with
    | lf m =>
      have e1 : m = l := of_decide_eq_true e
      have e2 : lexch l b (.lf m) = b := by rw [lexch, if_pos e1]
      rw [e2] at q
      exact ⟨v2, rfl, q v2 F1 H1 g1 (r2.at g1.ff)⟩
    | _ => cases e
  rw [eqv_lf ok] at e
  have ne := e
  have z0 := r0.at g1.ff
  rw [enc_eq] at z0
  -- thing[0] in ['var', 'name']
  refine q_when (eb_test (ed_op (ed_op (ed_var rfl z0) ed_int (rr_ixT (atI_nat (j := 0) rfl))) (ed_lst (ea_cons ed_str (ea_cons ed_str ea_nil)) (by simp)) (rr_inL rfl rfl))) g1.fh (fun e F2 H2 g2 => ?_) (fun e F2 H2 g2 => ?_)
  · rw [tstLfN ok] at e
    cases t with
    | lf m =>
      have e1 : m ≠ l := of_decide_eq_false ne
      have e2 : lexch l b (.lf m) = .lf m := by rw [lexch, if_neg e1]
      rw [e2] at q
      exact ⟨v0, rfl, q v0 F2 H2 (g1.tr g2) (r0.at (g1.tr g2).ff)⟩
    | _ => cases e
  rw [tstLfN ok] at e
  have nl := e
  have g2 := g1.tr g2
  have z0 := r0.at g2.ff
  rw [enc_eq] at z0
  -- thing[0] == 'made'
  refine q_when (eb_test (ed_op (ed_op (ed_var rfl z0) ed_int (rr_ixT (atI_nat (j := 0) rfl))) ed_str rr_eqS)) g2.fh (fun e F4 H4 g4 => ?_) (fun e F4 H4 g4 => ?_)
  · rw [tstMadeN ok] at e
    have g4 := g2.tr g4
    have z0 := r0.at g4.ff
    have z1 := r1.at g4.ff
    have z2 := r2.at g4.ff
    cases t with
    | made f ps =>
      cases ok with
      | made hf hk hps =>
        rw [lexch, lexchs_map] at q
        rw [enc_eq, tl, encs_map] at z0
        refine q_ret (d := enc (.made f (ps.map (lexch l b)))) ?_ g4.fh fun v F5 H5 g5 r5 => q v F5 H5 (g4.tr g5) r5
        rw [enc, encs_map, List.map_map]
        refine ed_tup (ea_cons ed_str (ea_cons (ed_op (ed_var rfl z0) ed_int (rr_ixT (atI_nat (j := 1) rfl))) (ea_cons (ed_cb (ea_cons (ed_lcT (ed_op (ed_var rfl z0) ed_int (rr_ixT (atI_nat (j := 2) rfl))) (by omega) (fun _ => rfl) fun a x F5 H5 ha g5 rx => ?_) ea_nil) rc_tupleL) ea_nil))) (by simp)
        exact ed_call (ea_cons (ed_var rfl rx) (ea_cons (ed_var rfl (z1.at g5.ff)) (ea_cons (ed_var rfl (z2.at g5.ff)) ea_nil))) ⟨a, l, b, by omega, hps.mem a ha, lo, rfl, rfl⟩
    | _ => cases e
  rw [tstMadeN ok] at e
  have nm := e
  have g4 := g2.tr g4
  have z0 := r0.at g4.ff
  rw [enc_eq] at z0
  -- thing[0] in ['all', 'some']
  refine q_when (eb_test (ed_op (ed_op (ed_var rfl z0) ed_int (rr_ixT (atI_nat (j := 0) rfl))) (ed_lst (ea_cons ed_str (ea_cons ed_str ea_nil)) (by simp)) (rr_inL rfl rfl))) g4.fh (fun e F5 H5 g5 => ?_) (fun e F5 H5 g5 => ?_)
  · rw [tstBindN ok] at e
    have g5 := g4.tr g5
    have z0 := r0.at g5.ff
    have z1 := r1.at g5.ff
    have z2 := r2.at g5.ff
    cases t with
    | nbind w kd m a =>
      cases ok with
      | nbind _ hw hk ha =>
        rw [lexch] at q
        rw [enc_eq, tl] at z0
        refine q_ret (d := enc (.nbind w kd m (lexch l b a))) (ed_tup (ea_cons (ed_op (ed_var rfl z0) ed_int (rr_ixT (atI_nat (j := 0) rfl))) (ea_cons (ed_op (ed_var rfl z0) ed_int (rr_ixT (atI_nat (j := 1) rfl))) (ea_cons (ed_op (ed_var rfl z0) ed_int (rr_ixT (atI_nat (j := 2) rfl))) (ea_cons ?_ ea_nil)))) (by simp)) g5.fh fun v F6 H6 g6 r6 => q v F6 H6 (g5.tr g6) r6
        exact ed_call (ea_cons (ed_op (ed_var rfl z0) ed_int (rr_ixT (atI_nat (j := 3) rfl))) (ea_cons (ed_var rfl z1) (ea_cons (ed_var rfl z2) ea_nil))) ⟨a, l, b, by omega, ha, lo, rfl, rfl⟩
    | bind =>
      cases ok with
      | bind hv _ _ _ => cases hv
    | _ => cases e
  rw [tstBindN ok] at e
  have g5 := g4.tr g5
  have z0 := r0.at g5.ff
  have z1 := r1.at g5.ff
  have z2 := r2.at g5.ff
  cases t with
  | node wd ps =>
    cases ok with
    | node hw hk hps =>
      rw [lexch, lexchs_map] at q
      rw [enc_eq, tl, encs_map] at z0
      refine q_ret (d := enc (.node wd (ps.map (lexch l b)))) ?_ g5.fh fun v F6 H6 g6 r6 => q v F6 H6 (g5.tr g6) r6
      rw [enc, encs_map, List.map_map]
      have cut : cutD (PyData.str (hd (.node wd ps)) :: ps.map enc) (some 1) none = ps.map enc := cutD_one _ _
      refine ed_op (ed_tup (ea_cons (ed_op (ed_var rfl z0) ed_int (rr_ixT (atI_nat (j := 0) rfl))) ea_nil) (by simp)) (ed_cb (ea_cons (ed_lcT (e := enc) (f := fun a => enc (lexch l b a)) (xs := ps) ?_ (by omega) (fun _ => rfl) fun a x F6 H6 ha g6 rx => ?_) ea_nil) rc_tupleL) (rr_catT (by simp) (by simp; omega))
      · rw [← cut]
        exact ed_slT (ed_var rfl z0) (eo_some (ed_int (K := K))) eo_none (cut_ok _ _)
      · exact ed_call (ea_cons (ed_var rfl rx) (ea_cons (ed_var rfl (z1.at g6.ff)) (ea_cons (ed_var rfl (z2.at g6.ff)) ea_nil))) ⟨a, l, b, by omega, hps.mem a ha, lo, rfl, rfl⟩
  | lf m => cases nl
  | made f ps => cases nm
  | bind w k a => cases e
  | nbind w k m a => cases e
theorem ok_Lx {f : Addr} {fd : FuncData} (D : Df K mg "_law_exchanged" sLx ["_law_thing", "_law_old", "_law_new"] f fd) (m_tuple : mg "tuple" = none) : ∀ n, FnOk P w K mg base CX0 (n + 1) f fd ["_law_thing", "_law_old", "_law_new"] (SpD K (ALx n)) := by
  intro n
  induction n with
  | zero =>
    refine D.F.ok scLx (fun vs H Q E h => ?_) (fun cdv A outer s H vs Q E hr h => ?_)
    · obtain ⟨F, ds, d, _, _, ⟨t, l, b, _, h, _⟩, _⟩ := h
      cases h
    · obtain ⟨F, ds, d, _, _, ⟨t, l, b, _, h, _⟩, _⟩ := h
      cases h
  | succ n ih =>
    refine D.F.ok scLx (fun vs H Q E h => ?_) (fun cdv A outer s H vs Q E hr h => ⟨tLx K (SpD K (ALx n)), ?_, pure_Lx vs H Q E h⟩)
    · obtain ⟨F, ds, d, _, r, ⟨t, l, b, _, _, _, rfl, _⟩, _⟩ := h
      exact r.len
    · exact (pss_cons (ps_if (pt_cmpR (op_eqD hr.units) (pv 0) (pv 1) (nomark _)) (pss_one (ps_ret (pv 2))) pss_nil)
    (pss_cons (ps_if (pt_cmpR op_in_seq (pe_ix ix_tup (pv 0) pe_int (fun _ _ => rfl)) (pe_lst (pa_cons pe_str (pa_cons pe_str pa_nil))) (by rfl)) (pss_one (ps_ret (pv 0))) pss_nil)
    (pss_cons (ps_if (pt_cmpR op_eq (pe_ix ix_tup (pv 0) pe_int (fun _ _ => rfl)) pe_str (nomark _)) (pss_one (ps_ret (pe_tup (pa_cons pe_str (pa_cons (pe_ix ix_tup (pv 0) pe_int (fun _ _ => rfl)) (pa_cons (pe_callTy call_tuple_of (by rfl) m_tuple (by decide +kernel) (pa_cons (pe_lc (own := [("_law_part", 3)]) (g := (gName 3)) (tt := tYes) (by rfl) scLx.nd (pi_tup (pe_ix ix_tup (pv 0) pe_int (fun _ _ => rfl))) (blkOk_by (own := [("_law_part", 3)]) (N := ["_law_thing", "_law_old", "_law_new", "_law_part"]) (sc := defScope sLx) (by decide +kernel)) (fun _ _ _ _ _ => (pg_name (i := 3) scLx.nd rfl (Or.inl rfl))) (fun _ _ _ _ _ => pts_nil) (fun _ _ _ _ _ => (pe_call ih hr (by rfl) D.g D.F.kp D.b .nil pass0 (pa_cons (pv 3) (pa_cons (pv 1) (pa_cons (pv 2) pa_nil)))))) pa_nil)) pa_nil)))))) pss_nil)
    (pss_cons (ps_if (pt_cmpR op_in_seq (pe_ix ix_tup (pv 0) pe_int (fun _ _ => rfl)) (pe_lst (pa_cons pe_str (pa_cons pe_str pa_nil))) (by rfl)) (pss_one (ps_ret (pe_tup (pa_cons (pe_ix ix_tup (pv 0) pe_int (fun _ _ => rfl)) (pa_cons (pe_ix ix_tup (pv 0) pe_int (fun _ _ => rfl)) (pa_cons (pe_ix ix_tup (pv 0) pe_int (fun _ _ => rfl)) (pa_cons (pe_call ih hr (by rfl) D.g D.F.kp D.b .nil pass0 (pa_cons (pe_ix ix_tup (pv 0) pe_int (fun _ _ => rfl)) (pa_cons (pv 1) (pa_cons (pv 2) pa_nil)))) pa_nil))))))) pss_nil)
    (pss_one (ps_ret (pe_op op_catT (pe_tup (pa_cons (pe_ix ix_tup (pv 0) pe_int (fun _ _ => rfl)) pa_nil)) (pe_callTy call_tuple_of (by rfl) m_tuple (by decide +kernel) (pa_cons (pe_lc (own := [("_law_part", 3)]) (g := (gName 3)) (tt := tYes) (by rfl) scLx.nd (pi_tup (pe_slice sl_tup (pv 0) (po_some pe_int) po_none)) (blkOk_by (own := [("_law_part", 3)]) (N := ["_law_thing", "_law_old", "_law_new", "_law_part"]) (sc := defScope sLx) (by decide +kernel)) (fun _ _ _ _ _ => (pg_name (i := 3) scLx.nd rfl (Or.inl rfl))) (fun _ _ _ _ _ => pts_nil) (fun _ _ _ _ _ => (pe_call ih hr (by rfl) D.g D.F.kp D.b .nil pass0 (pa_cons (pv 3) (pa_cons (pv 1) (pa_cons (pv 2) pa_nil)))))) pa_nil)))))))))
end
end Wk
namespace Wk
open PySem PySem.Spec PyProof.Rows L2 Ly Tm

theorem idx_spec : ∀ (ar : List Nat) (m : Nat), m ∈ ar → (ar[ar.idxOf m]? = some m ∧ ∀ j z, j < ar.idxOf m → ar[j]? = some z → z ≠ m)
  | a :: ar, m, h => by
    rw [List.idxOf_cons]
    by_cases e : a = m
    · subst e
      simp only [beq_self_eq_true, cond_true]
      exact ⟨rfl, fun j z hj => absurd hj (Nat.not_lt_zero _)⟩
    · have hm : m ∈ ar := by
        rcases List.mem_cons.mp h with z | z
        · exact absurd z.symm e
        · exact z
      obtain ⟨h1, h2⟩ := idx_spec ar m hm
      rw [show (a == m) = false by simpa using e, cond_false]
      refine ⟨by rw [List.getElem?_cons_succ]; exact h1, fun j z hj hz => ?_⟩
      cases j with
      | zero =>
        rw [List.getElem?_cons_zero] at hz
        cases hz
        exact e
      | succ j =>
        rw [List.getElem?_cons_succ] at hz
        exact h2 j z (by omega) hz
section
variable {K : PySem.W.Frag} {F H : Hp} {σ : L2.St} {te : TE}
theorem ed_index {i : Nat} {v : V} {ar : List Nat} {m : Nat} (hi : σ[i]? = some (some v)) (r : R K F v (.list (ar.map encN))) (h : ED K te σ F H (encN m)) (hm : m ∈ ar) : ED K (tBM K "list" (rIndex K) (tVar i) (tCons te tNil)) σ F H (encN (ar.idxOf m)) := fun F1 H1 g Q q => by
  obtain ⟨a, xs, rfl, hs, ra⟩ := r.asLst
  obtain ⟨h1, h2⟩ := idx_spec ar m hm
  refine ⟨.ref a, hi, .inl ⟨rfl, xs, .inl (.inl (g.fh _ _ (g.ff _ _ hs)))⟩, h F1 H1 g _ fun y F2 H2 g2 ry => ?_⟩
  have ra2 := (ra.at g.ff).at g2.ff
  have flat : (ar.map encN).all flatD = true := by
    rw [List.all_map]
    exact List.all_eq_true.mpr fun _ _ => rfl
  obtain ⟨z, hz, rz⟩ := ra2.get (i := ar.idxOf m) (d := encN m) (by rw [List.getElem?_map, h1]; rfl)
  have hy : y = .int m := ry.asInt
  have hz2 : z = .int m := rz.asInt
  refine ⟨a, xs, y, ar.idxOf m, z, rfl, rfl, .inl (.inl (g2.fh _ _ (g2.ff _ _ (g.ff _ _ hs)))), by rw [hy]; rfl, ra2.flat flat, hz, by rw [hy, hz2]; simp [eqV], fun j u hj hu => ?_, q _ F2 H2 g2 (.int _)⟩
  obtain ⟨d, hd, rd⟩ := ra2.back hu
  obtain ⟨b, hb, rfl⟩ := get_map hd
  have ne := h2 j b hj hb
  have hu2 : u = .int b := rd.asInt
  rw [hu2, hy]
  show ((b : Int) == (m : Int)) = false
  rw [beq_nat, decide_eq_false ne]
end
abbrev sUn : Stmt := topS 21
theorem scUn : FnScope ["_law_thing", "_law_around", "_law_word_here", "_law_part"] ["_law_thing", "_law_around"] (defScope sUn) := ⟨rfl, rfl, rfl, by decide +kernel, rfl, by decide +kernel, by decide +kernel⟩
def tUn (K : PySem.W.Frag) (sp : Sp) : TS :=
  (tSeq (tAsg (tOp (rIxT K) (tVar 0) (tC (.int 0))) (gName 2))
  (tSeq (tIfS (tTest (tOp rEq (tVar 2) (tC (.str "var")))) (tRet (tTup (tCons (tC (.str "bound")) (tCons (tBM K "list" (rIndex K) (tVar 1) (tCons (tOp (rIxT K) (tVar 0) (tC (.int 1))) tNil)) tNil)))) tNext)
  (tSeq (tIfS (tTest (tOp rEq (tVar 2) (tC (.str "name")))) (tRet (tVar 0)) tNext)
  (tSeq (tIfS (tTest (tOp rEq (tVar 2) (tC (.str "made")))) (tRet (tTup (tCons (tC (.str "made")) (tCons (tOp (rIxT K) (tVar 0) (tC (.int 1))) (tCons (tCB (rTupOf K) (tCons (tLc (iTup K (tOp (rIxT K) (tVar 0) (tC (.int 2)))) (gName 3) tYes (tCall sp [] E0 (tCons (tVar 3) (tCons (tVar 1) tNil))) [3]) tNil)) tNil))))) tNext)
  (tSeq (tIfS (tTest (tOp (rIn K false) (tVar 2) (tLst (tCons (tC (.str "all")) (tCons (tC (.str "some")) tNil))))) (tRet (tTup (tCons (tVar 2) (tCons (tOp (rIxT K) (tVar 0) (tC (.int 1))) (tCons (tCall sp [] E0 (tCons (tOp (rIxT K) (tVar 0) (tC (.int 3))) (tCons (tOp rCat (tLst (tCons (tOp (rIxT K) (tVar 0) (tC (.int 2))) tNil)) (tVar 1)) tNil))) tNil))))) tNext)
  (tRet (tOp (rCatT K) (tTup (tCons (tVar 2) tNil)) (tCB (rTupOf K) (tCons (tLc (iTup K (tSl (rSlT K) (tVar 0) (tPart (tC (.int 1))) tNoPart)) (gName 3) tYes (tCall sp [] E0 (tCons (tVar 3) (tCons (tVar 1) tNil))) [3]) tNil)))))))))
def AUn (n : Nat) (ds : List PyData) (d : PyData) : Prop := ∃ (t : Th) (ar : List Nat), n ≤ 30 ∧ Ok true n t ∧ Vr ar t ∧ ar.length + n ≤ 100 ∧ ds = [enc t, .list (ar.map encN)] ∧ d = enc (unnamed ar t)
section
variable {P : Program} {w : World} {K : PySem.W.Frag} {mg : Str → Option Value} {base : Heap}
theorem pure_Un {n : Nat} (vs : List V) (H : Hp) (Q : VK) (E : XK) (h : SpD K (AUn (n + 1)) vs H Q E) : tUn K (SpD K (AUn n)) { nx := fun _ H' => Q .non H', rt := Q } (start ["_law_thing", "_law_around", "_law_word_here", "_law_part"] vs) H := by
  obtain ⟨F, ds, d, s, r, ⟨t, ar, hn, ok, vr, hl, rfl, rfl⟩, q⟩ := h
  obtain ⟨v0, v1, rfl, r0, r1⟩ := r.two
  have z0 := r0
  rw [enc_eq] at z0
  -- word = thing[0]
  refine q_set (ed_op (ed_var rfl z0) ed_int (rr_ixT (atI_nat (j := 0) rfl))) s fun v2 F1 H1 g1 r2 => ?_
  -- word == 'var'
  refine q_when (eb_test (ed_op (ed_var rfl r2) ed_str rr_eqS)) g1.fh (fun e F2 H2 g2 => ?_) (fun e F2 H2 g2 => ?_)
  · rw [tstVar ok] at e
    have g2 := g1.tr g2
    cases t with
    | lf l =>
      cases l with
      | var m =>
        cases vr with
        | var hm =>
          have z0 : R K F2 v0 (.tuple [.str "var", .int m]) := r0.at g2.ff
          exact q_ret (d := enc (unnamed ar (.lf (.var m)))) (ed_tup (ea_cons ed_str (ea_cons (ed_index rfl (r1.at g2.ff) (ed_op (ed_var rfl z0) ed_int (rr_ixT (atI_nat (j := 1) rfl))) hm) ea_nil)) (by simp)) g2.fh fun v F3 H3 g3 r3 => q v F3 H3 (g2.tr g3) r3
      | _ => cases e
    | _ => cases e
  rw [tstVar ok] at e
  have nb := e
  have g2' := g1.tr g2
  -- word == 'name'
  refine q_when (eb_test (ed_op (ed_var rfl (r2.at g2.ff)) ed_str rr_eqS)) g2'.fh (fun e F3 H3 g3 => ?_) (fun e F3 H3 g3 => ?_)
  · rw [tstNameN ok] at e
    cases t with
    | lf l =>
      cases l with
      | name x k => exact ⟨v0, rfl, q v0 F3 H3 (g2'.tr g3) (r0.at (g2'.tr g3).ff)⟩
      | _ => cases e
    | _ => cases e
  rw [tstNameN ok] at e
  have nn := e
  have g3' := g2'.tr g3
  have r2 := r2.at (g2.tr g3).ff
  -- word == 'made'
  refine q_when (eb_test (ed_op (ed_var rfl r2) ed_str rr_eqS)) g3'.fh (fun e F4 H4 g4 => ?_) (fun e F4 H4 g4 => ?_)
  · rw [tstMadeN ok] at e
    have g4 := g3'.tr g4
    have z0 := r0.at g4.ff
    have z1 := r1.at g4.ff
    cases t with
    | made f ps =>
      cases ok with
      | made hf hk hps =>
        cases vr with
        | made hc =>
          rw [unnamed, unnameds_map] at q
          rw [enc_eq, tl, encs_map] at z0
          refine q_ret (d := enc (.made f (ps.map (unnamed ar)))) ?_ g4.fh fun v F5 H5 g5 r5 => q v F5 H5 (g4.tr g5) r5
          rw [enc, encs_map, List.map_map]
          refine ed_tup (ea_cons ed_str (ea_cons (ed_op (ed_var rfl z0) ed_int (rr_ixT (atI_nat (j := 1) rfl))) (ea_cons (ed_cb (ea_cons (ed_lcT (ed_op (ed_var rfl z0) ed_int (rr_ixT (atI_nat (j := 2) rfl))) (by omega) (fun _ => rfl) fun a x F5 H5 ha g5 rx => ?_) ea_nil) rc_tupleL) ea_nil))) (by simp)
          exact ed_call (ea_cons (ed_var rfl rx) (ea_cons (ed_var rfl (z1.at g5.ff)) ea_nil)) ⟨a, ar, by omega, hps.mem a ha, hc.mem a ha, by omega, rfl, rfl⟩
    | _ => cases e
  rw [tstMadeN ok] at e
  have nm := e
  have g4' := g3'.tr g4
  have r2 := r2.at g4.ff
  -- word in ['all', 'some']
  refine q_when (eb_test (ed_op (ed_var rfl r2) (ed_lst (ea_cons ed_str (ea_cons ed_str ea_nil)) (by simp)) (rr_inL rfl rfl))) g4'.fh (fun e F5 H5 g5 => ?_) (fun e F5 H5 g5 => ?_)
  · rw [tstBindN ok] at e
    have g5' := g4'.tr g5
    have z0 := r0.at g5'.ff
    have z1 := r1.at g5'.ff
    have r2 := r2.at g5.ff
    cases t with
    | nbind w kd m a =>
      cases ok with
      | nbind _ hw hk ha =>
        cases vr with
        | nbind hc =>
          rw [unnamed] at q
          rw [enc_eq, tl] at z0
          have ln : (List.map encN ar).length = ar.length := List.length_map ..
          refine q_ret (d := enc (.bind w kd (unnamed (m :: ar) a))) (ed_tup (ea_cons (ed_var rfl r2) (ea_cons (ed_op (ed_var rfl z0) ed_int (rr_ixT (atI_nat (j := 1) rfl))) (ea_cons ?_ ea_nil))) (by simp)) g5'.fh fun v F6 H6 g6 r6 => q v F6 H6 (g5'.tr g6) r6
          refine ed_call (ea_cons (ed_op (ed_var rfl z0) ed_int (rr_ixT (atI_nat (j := 3) rfl))) (ea_cons (ed_op (ed_lst (ea_cons (ed_op (ed_var rfl z0) ed_int (rr_ixT (atI_nat (j := 2) rfl))) ea_nil) (by simp)) (ed_var rfl z1) (rr_cat (by rw [ln]; simp; omega))) ea_nil)) ⟨a, m :: ar, by omega, ha, hc, by rw [List.length_cons]; omega, rfl, rfl⟩
    | bind =>
      cases ok with
      | bind hv _ _ _ => cases hv
    | _ => cases e
  rw [tstBindN ok] at e
  have g5' := g4'.tr g5
  have z0 := r0.at g5'.ff
  have z1 := r1.at g5'.ff
  have r2 := r2.at g5.ff
  cases t with
  | node wd ps =>
    cases ok with
    | node hw hk hps =>
      cases vr with
      | node hc =>
        rw [unnamed, unnameds_map] at q
        rw [enc_eq, tl, encs_map] at z0
        refine q_ret (d := enc (.node wd (ps.map (unnamed ar)))) ?_ g5'.fh fun v F6 H6 g6 r6 => q v F6 H6 (g5'.tr g6) r6
        rw [enc, encs_map, List.map_map]
        have cut : cutD (PyData.str (hd (.node wd ps)) :: ps.map enc) (some 1) none = ps.map enc := cutD_one _ _
        refine ed_op (ed_tup (ea_cons (ed_var rfl r2) ea_nil) (by simp)) (ed_cb (ea_cons (ed_lcT (e := enc) (f := fun a => enc (unnamed ar a)) (xs := ps) ?_ (by omega) (fun _ => rfl) fun a x F6 H6 ha g6 rx => ?_) ea_nil) rc_tupleL) (rr_catT (by simp) (by simp; omega))
        · rw [← cut]
          exact ed_slT (ed_var rfl z0) (eo_some (ed_int (K := K))) eo_none (cut_ok _ _)
        · exact ed_call (ea_cons (ed_var rfl rx) (ea_cons (ed_var rfl (z1.at g6.ff)) ea_nil)) ⟨a, ar, by omega, hps.mem a ha, hc.mem a ha, by omega, rfl, rfl⟩
  | lf l =>
    cases l with
    | name x k => cases nn
    | var m => cases nb
    | bound m =>
      cases ok with
      | lf _ hi => cases hi
  | made f ps => cases nm
  | bind w k a => cases e
  | nbind w k m a => cases e
theorem ok_Un {f : Addr} {fd : FuncData} (D : Df K mg "_law_unnamed" sUn ["_law_thing", "_law_around"] f fd) (m_tuple : mg "tuple" = none) : ∀ n, FnOk P w K mg base CX0 (n + 1) f fd ["_law_thing", "_law_around"] (SpD K (AUn n)) := by
  intro n
  induction n with
  | zero =>
    refine D.F.ok scUn (fun vs H Q E h => ?_) (fun cdv A outer s H vs Q E hr h => ?_)
    · obtain ⟨F, ds, d, _, _, ⟨t, ar, _, h, _⟩, _⟩ := h
      cases h
    · obtain ⟨F, ds, d, _, _, ⟨t, ar, _, h, _⟩, _⟩ := h
      cases h
  | succ n ih =>
    refine D.F.ok scUn (fun vs H Q E h => ?_) (fun cdv A outer s H vs Q E hr h => ⟨tUn K (SpD K (AUn n)), ?_, pure_Un vs H Q E h⟩)
    · obtain ⟨F, ds, d, _, r, ⟨t, ar, _, _, _, _, rfl, _⟩, _⟩ := h
      exact r.len
    · exact (pss_cons (ps_set (i := 2) scUn.nd rfl (Or.inl rfl) (pe_ix ix_tup (pv 0) pe_int (fun _ _ => rfl)))
    (pss_cons (ps_if (pt_cmpR op_eq (pv 2) pe_str (nomark _)) (pss_one (ps_ret (pe_tup (pa_cons pe_str (pa_cons (pe_bm PySem.F.plainAttrs_list PySem.F.slot_list_index PySem.F.type_list_index mt_index (pv 1) (pa_cons (pe_ix ix_tup (pv 0) pe_int (fun _ _ => rfl)) pa_nil)) pa_nil))))) pss_nil)
    (pss_cons (ps_if (pt_cmpR op_eq (pv 2) pe_str (nomark _)) (pss_one (ps_ret (pv 0))) pss_nil)
    (pss_cons (ps_if (pt_cmpR op_eq (pv 2) pe_str (nomark _)) (pss_one (ps_ret (pe_tup (pa_cons pe_str (pa_cons (pe_ix ix_tup (pv 0) pe_int (fun _ _ => rfl)) (pa_cons (pe_callTy call_tuple_of (by rfl) m_tuple (by decide +kernel) (pa_cons (pe_lc (own := [("_law_part", 3)]) (g := (gName 3)) (tt := tYes) (by rfl) scUn.nd (pi_tup (pe_ix ix_tup (pv 0) pe_int (fun _ _ => rfl))) (blkOk_by (own := [("_law_part", 3)]) (N := ["_law_thing", "_law_around", "_law_word_here", "_law_part"]) (sc := defScope sUn) (by decide +kernel)) (fun _ _ _ _ _ => (pg_name (i := 3) scUn.nd rfl (Or.inl rfl))) (fun _ _ _ _ _ => pts_nil) (fun _ _ _ _ _ => (pe_call ih hr (by rfl) D.g D.F.kp D.b .nil pass0 (pa_cons (pv 3) (pa_cons (pv 1) pa_nil))))) pa_nil)) pa_nil)))))) pss_nil)
    (pss_cons (ps_if (pt_cmpR op_in_seq (pv 2) (pe_lst (pa_cons pe_str (pa_cons pe_str pa_nil))) (by rfl)) (pss_one (ps_ret (pe_tup (pa_cons (pv 2) (pa_cons (pe_ix ix_tup (pv 0) pe_int (fun _ _ => rfl)) (pa_cons (pe_call ih hr (by rfl) D.g D.F.kp D.b .nil pass0 (pa_cons (pe_ix ix_tup (pv 0) pe_int (fun _ _ => rfl)) (pa_cons (pe_op op_cat (pe_lst (pa_cons (pe_ix ix_tup (pv 0) pe_int (fun _ _ => rfl)) pa_nil)) (pv 1)) pa_nil))) pa_nil)))))) pss_nil)
    (pss_one (ps_ret (pe_op op_catT (pe_tup (pa_cons (pv 2) pa_nil)) (pe_callTy call_tuple_of (by rfl) m_tuple (by decide +kernel) (pa_cons (pe_lc (own := [("_law_part", 3)]) (g := (gName 3)) (tt := tYes) (by rfl) scUn.nd (pi_tup (pe_slice sl_tup (pv 0) (po_some pe_int) po_none)) (blkOk_by (own := [("_law_part", 3)]) (N := ["_law_thing", "_law_around", "_law_word_here", "_law_part"]) (sc := defScope sUn) (by decide +kernel)) (fun _ _ _ _ _ => (pg_name (i := 3) scUn.nd rfl (Or.inl rfl))) (fun _ _ _ _ _ => pts_nil) (fun _ _ _ _ _ => (pe_call ih hr (by rfl) D.g D.F.kp D.b .nil pass0 (pa_cons (pv 3) (pa_cons (pv 1) pa_nil))))) pa_nil))))))))))
end
abbrev sFr : Stmt := topS 22
theorem scFr : FnScope ["_law_thing", "_law_found", "_law_part"] ["_law_thing"] (defScope sFr) := ⟨rfl, rfl, rfl, by decide +kernel, rfl, by decide +kernel, by decide +kernel⟩
def tFr4 (K : PySem.W.Frag) (sp : Sp) : TS :=
  (tSeq (tIfS (tTest (tOp rEq (tOp (rIxT K) (tVar 0) (tC (.int 0))) (tC (.str "made")))) (tFor (iTup K (tOp (rIxT K) (tVar 0) (tC (.int 2)))) (gName 2) (tAsg (tOp rCat (tVar 1) (tCall sp [] E0 (tCons (tVar 2) tNil))) (gName 1))) tNext)
  (tRet (tVar 1)))
def tFr (K : PySem.W.Frag) (sp : Sp) : TS :=
  (tSeq (tIfS (tTest (tOp rEq (tOp (rIxT K) (tVar 0) (tC (.int 0))) (tC (.str "name")))) (tRet (tLst (tCons (tTup (tCons (tOp (rIxT K) (tVar 0) (tC (.int 1))) (tCons (tOp (rIxT K) (tVar 0) (tC (.int 2))) tNil))) tNil))) tNext)
  (tSeq (tAsg (tLst tNil) (gName 1))
  (tSeq (tFor (iTup K (tSl (rSlT K) (tVar 0) (tPart (tC (.int 1))) tNoPart)) (gName 2) (tIfS (tAnd (tB (tCB (rIsi K) (tCons (tVar 2) (tCons (tC (.ty "tuple")) tNil)))) (tAnd (tTest (tOp (rNeD K) (tVar 2) (tTup tNil))) (tTest (tOp rNe (tOp (rIxT K) (tVar 0) (tC (.int 0))) (tC (.str "made")))))) (tAsg (tOp rCat (tVar 1) (tCall sp [] E0 (tCons (tVar 2) tNil))) (gName 1)) tNext))
  (tSeq (tIfS (tTest (tOp rEq (tOp (rIxT K) (tVar 0) (tC (.int 0))) (tC (.str "made")))) (tFor (iTup K (tOp (rIxT K) (tVar 0) (tC (.int 2)))) (gName 2) (tAsg (tOp rCat (tVar 1) (tCall sp [] E0 (tCons (tVar 2) tNil))) (gName 1))) tNext)
  (tRet (tVar 1))))))
def AFr (n : Nat) (ds : List PyData) (d : PyData) : Prop := ∃ t, n ≤ 30 ∧ Ok false n t ∧ wt t ≤ 10000 ∧ ds = [enc t] ∧ d = .list ((names t).map SetK.encT)
theorem shaped_empty : SeqAt.shaped (.tuple []) = true := by decide
theorem eqv_empty (t : Th) : PyData.eqv (enc t) (.tuple []) = false := by rw [enc_eq]; simp [PyData.eqv, PyData.eqvAll]
section
variable {P : Program} {w : World} {K : PySem.W.Frag} {mg : Str → Option Value} {base : Heap}

/-- found = found + _law_free(part), over things -/
theorem fr_loop {n : Nat} {F H : Hp} {te : TE} {D : Ends} {tz : TS} {v0 : V} {y : Option V} {ts : List Th} {vf : V} (s : Same F H) (h : ∀ z, ED K te [some v0, some vf, z] F H (.tuple (ts.map enc))) (hn : n ≤ 30) (ok : ∀ t ∈ ts, Ok false n t) (hw : wts ts ≤ 10000) (rf : R K F vf (.list []))
    (q : ∀ v z F1 H1, Gr [] F H F1 H1 → R K F1 v (.list ((namess ts).map SetK.encT)) → tz D [some v0, some v, z] H1) :
    tSeq (tFor (iTup K te) (gName 2) (tAsg (tOp rCat (tVar 1) (tCall (SpD K (AFr n)) [] E0 (tCons (tVar 2) tNil))) (gName 1))) tz D [some v0, some vf, y] H := by
  refine q_forT (h y) s fun F1 H1 g1 => ?_
  refine ⟨fun i σ2 H4 => ∃ F4 v z, σ2 = [some v0, some v, z] ∧ Gr [] F1 H1 F4 H4 ∧ R K F4 v (.list ((namess (ts.take i)).map SetK.encT)), ⟨F1, vf, y, rfl, .refl g1.fh, rf.at g1.ff⟩, fun i σ2 H4 ⟨F4, v, z, _, g4, _⟩ => ⟨F4, g4.fh, g4.ff⟩, ?_, ?_⟩
  · rintro i x d σ2 H4 hd rx ⟨F4, v, z, rfl, g4, rv⟩
    obtain ⟨t, ht, rfl⟩ := get_map hd
    have hm := List.mem_of_getElem? ht
    have et : ts.take (i + 1) = ts.take i ++ [t] := by rw [List.take_succ, ht]; rfl
    have hwt := wt_mem hm
    refine (ed_op (ed_var rfl rv) (ed_call (ea_cons (ed_var rfl (rx.at g4.ff)) ea_nil) ⟨t, hn, ok t hm, by omega, rfl, rfl⟩) (rr_cat ?_)).go g4.fh fun u F5 H5 g5 ru => ?_
    · have h1 := namess_len (ts.take i)
      have h2 := wts_take ts i
      have h3 := names_len t
      rw [List.length_map, List.length_map]
      omega
    · refine ⟨F5, u, some x, rfl, g4.tr g5, ?_⟩
      rw [et, namess_app]
      show R K F5 u (.list ((namess (ts.take i) ++ (names t ++ [])).map SetK.encT))
      rw [List.append_nil, List.map_append]
      exact ru
  · rintro σ2 H4 ⟨F4, v, z, rfl, g4, rv⟩
    rw [List.length_map, List.take_length] at rv
    exact q v z F4 H4 (g1.tr g4) rv

/-- what the first loop meets: data, and the thing that is looked through there -/
def ItOk (n : Nat) (t : Th) (p : PyData × Option Th) : Prop := (p.2 = none ∧ (kitB (tyD p.1) "tuple" = some false ∨ (tyD p.1 = "tuple" ∧ SeqAt.shaped p.1 = true ∧ (PyData.eqv p.1 (.tuple []) = true ∨ sortMade t = true)))) ∨
  ∃ u, p = (enc u, some u) ∧ Ok false n u ∧ sortMade t = false
theorem pure_Fr {n : Nat} (vs : List V) (H : Hp) (Q : VK) (E : XK) (h : SpD K (AFr (n + 1)) vs H Q E) : tFr K (SpD K (AFr n)) { nx := fun _ H' => Q .non H', rt := Q } (start ["_law_thing", "_law_found", "_law_part"] vs) H := by
  obtain ⟨F, ds, d, s, r, ⟨t, hn, ok, hw, rfl, rfl⟩, q⟩ := h
  obtain ⟨v0, rfl, r0⟩ := r.one
  have z0 := r0
  rw [enc_eq] at z0
  -- thing[0] == 'name'
  refine q_when (eb_test (ed_op (ed_op (ed_var rfl z0) ed_int (rr_ixT (atI_nat (j := 0) rfl))) ed_str rr_eqS)) s (fun e F1 H1 g1 => ?_) (fun e F1 H1 g1 => ?_)
  · rw [tstName ok] at e
    cases t with
    | lf l =>
      cases l with
      | name x k =>
        have z0 : R K F1 v0 (.tuple [.str "name", .str x, .str k]) := r0.at g1.ff
        exact q_ret (ed_lst (ds := [SetK.encT [x, k]]) (ea_cons (ed_tup (ea_cons (ed_op (ed_var rfl z0) ed_int (rr_ixT (atI_nat (j := 1) rfl))) (ea_cons (ed_op (ed_var rfl z0) ed_int (rr_ixT (atI_nat (j := 2) rfl))) ea_nil)) (by simp)) ea_nil) (by simp)) g1.fh fun v F2 H2 g2 r2 => q v F2 H2 (g1.tr g2) r2
      | _ => cases e
    | _ => cases e
  rw [tstName ok] at e
  have nn := e
  -- found = []
  refine q_set (K := K) (d := .list []) (ed_lst ea_nil (by simp)) g1.fh fun vf F2 H2 g2 rf => ?_
  have g2' := g1.tr g2
  have z0 := r0.at g2'.ff
  rw [enc_eq] at z0
  have okh : ∃ its : List (PyData × Option Th), tl t = its.map (·.1) ∧ (∀ p ∈ its, ItOk n t p) ∧ (namess (its.filterMap (·.2)) = if sortMade t = true then [] else names t) ∧ wts (its.filterMap (·.2)) ≤ 10000 := by
    cases t with
    | lf l =>
      cases l with
      | name x k => cases nn
      | var m =>
        cases ok with
        | lf _ hi => cases hi
      | bound m => exact ⟨[(.int m, none)], rfl, fun p hp => by rw [List.mem_singleton.mp hp]; exact .inl ⟨rfl, .inl (by show kitB "int" "tuple" = some false; decide +kernel)⟩, rfl, Nat.zero_le _⟩
    | made f ps =>
      cases ok with
      | made hf hk hps =>
        refine ⟨[(.str f, none), (.tuple (encs ps), none)], rfl, fun p hp => ?_, rfl, Nat.zero_le _⟩
        rcases List.mem_cons.mp hp with rfl | hp
        · exact .inl ⟨rfl, .inl (by show kitB "str" "tuple" = some false; decide +kernel)⟩
        · rw [List.mem_singleton.mp hp]
          obtain ⟨a, b⟩ := lays hps
          refine .inl ⟨rfl, .inr ⟨rfl, ?_, .inr rfl⟩⟩
          unfold SeqAt.shaped
          rw [show (PyData.tuple (encs ps)).canLay0 = true by simp [PyData.canLay0, a], Bool.true_and, decide_eq_true_eq]
          simp only [PyData.depth]
          omega
    | bind w kd a =>
      cases ok with
      | bind _ _ _ ha =>
        refine ⟨[(.str kd, none), (enc a, some a)], rfl, fun p hp => ?_, ?_, ?_⟩
        · rcases List.mem_cons.mp hp with rfl | hp
          · exact .inl ⟨rfl, .inl (by show kitB "str" "tuple" = some false; decide +kernel)⟩
          · rw [List.mem_singleton.mp hp]
            exact .inr ⟨a, rfl, ha, rfl⟩
        · show names a ++ [] = names a
          rw [List.append_nil]
        · exact hw
    | nbind =>
      cases ok with
      | nbind hv _ _ _ => cases hv
    | node wd ps =>
      cases ok with
      | node _ _ hps =>
        have e1 : (ps.map fun u => (enc u, some u)).filterMap (·.2) = ps := by
          rw [List.filterMap_map]
          show ps.filterMap (fun u => some u) = ps
          exact List.filterMap_some
        refine ⟨ps.map fun u => (enc u, some u), ?_, fun p hp => ?_, ?_, ?_⟩
        · rw [List.map_map, tl, encs_map]
          rfl
        · obtain ⟨u, hu, rfl⟩ := List.mem_map.mp hp
          exact .inr ⟨u, rfl, hps.mem u hu, rfl⟩
        · rw [e1]
          rfl
        · rw [e1]
          exact hw
  obtain ⟨its, et, oki, en, hwi⟩ := okh
  have cut : cutD (PyData.str (hd t) :: tl t) (some 1) none = its.map (·.1) := by rw [cutD_one, et]
  have src : ED K (tSl (rSlT K) (tVar 0) (tPart (tC (.int 1))) tNoPart) [some v0, some vf, none] F2 H2 (.tuple (its.map (·.1))) := by
    rw [← cut]
    exact ed_slT (ed_var rfl z0) (eo_some (ed_int (K := K))) eo_none (cut_ok _ _)
  refine q_forT src g2'.fh fun F3 H3 g3 => ?_
  have g3' := g2'.tr g3
  have z0 := r0.at g3'.ff
  rw [enc_eq] at z0
  refine ⟨fun i σ2 H4 => ∃ F4 v z, σ2 = [some v0, some v, z] ∧ Gr [] F3 H3 F4 H4 ∧ R K F4 v (.list ((namess ((its.take i).filterMap (·.2))).map SetK.encT)), ⟨F3, vf, none, rfl, .refl g3.fh, rf.at g3.ff⟩, fun i σ2 H4 ⟨F4, v, z, _, g4, _⟩ => ⟨F4, g4.fh, g4.ff⟩, ?_, ?_⟩
  · rintro i x d σ2 H4 hd rx ⟨F4, v, z, rfl, g4, rv⟩
    obtain ⟨p, hp, rfl⟩ := get_map hd
    have hm := List.mem_of_getElem? hp
    have et : its.take (i + 1) = its.take i ++ [p] := by rw [List.take_succ, hp]; rfl
    have z0 := z0.at g4.ff
    have rx := rx.at g4.ff
    have test : EB (tAnd (tB (tCB (rIsi K) (tCons (tVar 2) (tCons (tC (.ty "tuple")) tNil)))) (tAnd (tTest (tOp (rNeD K) (tVar 2) (tTup tNil))) (tTest (tOp rNe (tOp (rIxT K) (tVar 0) (tC (.int 0))) (tC (.str "made")))))) [some v0, some v, some x] F4 H4 p.2.isSome := by
      rcases oki p hm with ⟨e2, c | ⟨ty, sh, c⟩⟩ | ⟨u, rfl, oku, nm⟩
      · rw [e2]
        exact eb_and (b := false) (eb_isi rfl rx c) fun z => nomatch z
      · rw [e2]
        have t2 : EB (tTest (tOp (rNeD K) (tVar 2) (tTup tNil))) [some v0, some v, some x] F4 H4 (!PyData.eqv p.1 (.tuple [])) := eb_test (ed_op (ed_var rfl rx) (ed_tup ea_nil (by simp)) (rr_neD sh shaped_empty))
        have t3 : EB (tTest (tOp rNe (tOp (rIxT K) (tVar 0) (tC (.int 0))) (tC (.str "made")))) [some v0, some v, some x] F4 H4 (!sortMade t) := by
          rw [← tstMade ok]
          exact eb_test (ed_op (ed_op (ed_var rfl z0) ed_int (rr_ixT (atI_nat (j := 0) rfl))) ed_str rr_neS)
        have t1 : EB (tB (tCB (rIsi K) (tCons (tVar 2) (tCons (tC (.ty "tuple")) tNil)))) [some v0, some v, some x] F4 H4 true := eb_isi rfl rx (by rw [ty]; decide +kernel)
        have all := eb_and t1 fun _ => eb_and t2 fun _ => t3
        have e : (true && (!PyData.eqv p.1 (.tuple []) && !sortMade t)) = (none : Option Th).isSome := by
          rcases c with c | c <;> simp [c]
        rw [e] at all
        exact all
      · have t2 : EB (tTest (tOp (rNeD K) (tVar 2) (tTup tNil))) [some v0, some v, some x] F4 H4 (!PyData.eqv (enc u) (.tuple [])) := eb_test (ed_op (ed_var rfl rx) (ed_tup ea_nil (by simp)) (rr_neD (shaped_ok oku (by omega)) shaped_empty))
        have t3 : EB (tTest (tOp rNe (tOp (rIxT K) (tVar 0) (tC (.int 0))) (tC (.str "made")))) [some v0, some v, some x] F4 H4 (!sortMade t) := by
          rw [← tstMade ok]
          exact eb_test (ed_op (ed_op (ed_var rfl z0) ed_int (rr_ixT (atI_nat (j := 0) rfl))) ed_str rr_neS)
        have t1 : EB (tB (tCB (rIsi K) (tCons (tVar 2) (tCons (tC (.ty "tuple")) tNil)))) [some v0, some v, some x] F4 H4 true := eb_isi rfl rx (by show kitB (tyD (enc u)) "tuple" = some true; rw [enc_eq]; show kitB "tuple" "tuple" = some true; decide +kernel)
        have all := eb_and t1 fun _ => eb_and t2 fun _ => t3
        rw [eqv_empty, nm] at all
        exact all
    refine test.go g4.fh fun F5 H5 g5 => ?_
    rcases hs : p.2 with _ | u
    · refine iteF ⟨F5, v, some x, rfl, g4.tr g5, ?_⟩
      rw [et, List.filterMap_append, show [p].filterMap (fun q : PyData × Option Th => q.2) = [] by simp [hs], List.append_nil]
      exact rv.at g5.ff
    · obtain ⟨rfl, oku, wtu⟩ : p = (enc u, some u) ∧ Ok false n u ∧ wt u ≤ 10000 := by
        rcases oki p hm with ⟨e2, _⟩ | ⟨u2, rfl, oku, _⟩
        · rw [hs] at e2; cases e2
        · cases hs
          refine ⟨rfl, oku, Nat.le_trans (wt_mem ?_) hwi⟩
          exact List.mem_filterMap.mpr ⟨_, hm, rfl⟩
      refine iteT ?_
      refine (ed_op (ed_var rfl (rv.at g5.ff)) (ed_call (ea_cons (ed_var rfl (rx.at g5.ff)) ea_nil) ⟨u, by omega, oku, wtu, rfl, rfl⟩) (rr_cat ?_)).go g5.fh fun y F6 H6 g6 ru => ?_
      · have h1 := namess_len ((its.take i).filterMap (·.2))
        have h2 : wts ((its.take i).filterMap (·.2)) ≤ wts (its.filterMap (·.2)) := by
          have e := List.take_append_drop i its
          rw [← e, List.filterMap_append, wts_app]
          rw [List.take_append_drop]
          omega
        have h3 := names_len u
        rw [List.length_map, List.length_map]
        omega
      · refine ⟨F6, y, some x, rfl, (g4.tr g5).tr g6, ?_⟩
        rw [et, List.filterMap_append, show [((enc u, some u) : PyData × Option Th)].filterMap (fun q : PyData × Option Th => q.2) = [u] by rfl, namess_app]
        show R K F6 y (.list ((namess ((its.take i).filterMap fun q : PyData × Option Th => q.2) ++ (names u ++ [])).map SetK.encT))
        rw [List.append_nil, List.map_append]
        exact ru
  · rintro σ2 H4 ⟨F4, v, z, rfl, g4, rv⟩
    rw [List.length_map, List.take_length, en] at rv
    have g4' := g3'.tr g4
    have z0 := z0.at g4.ff
    -- if thing[0] == 'made'
    refine EB.go (eb_test (ed_op (ed_op (ed_var rfl z0) ed_int (rr_ixT (atI_nat (j := 0) rfl))) ed_str rr_eqS)) g4.fh fun F5 H5 g5 => ?_
    rw [tstMade ok]
    cases t with
    | made f ps =>
      cases ok with
      | made hf hk hps =>
        have z0 := r0.at (g4'.tr g5).ff
        rw [enc_eq, tl, encs_map] at z0
        refine iteT (fr_loop (tz := tRet (tVar 1)) (D := { nx := fun _ H' => Q .non H', rt := Q }) (y := z) g5.fh (fun z => ed_op (ed_var rfl z0) ed_int (rr_ixT (atI_nat (j := 2) rfl))) (by omega) hps.mem hw (rv.at g5.ff) fun u z F6 H6 g6 ru => ?_)
        exact ⟨u, rfl, q u F6 H6 ((g4'.tr g5).tr g6) ru⟩
    | lf l => exact iteF ⟨v, rfl, q v F5 H5 (g4'.tr g5) (rv.at g5.ff)⟩
    | bind => exact iteF ⟨v, rfl, q v F5 H5 (g4'.tr g5) (rv.at g5.ff)⟩
    | nbind => exact iteF ⟨v, rfl, q v F5 H5 (g4'.tr g5) (rv.at g5.ff)⟩
    | node => exact iteF ⟨v, rfl, q v F5 H5 (g4'.tr g5) (rv.at g5.ff)⟩
theorem ok_Fr {f : Addr} {fd : FuncData} (D : Df K mg "_law_free" sFr ["_law_thing"] f fd) (m_tuple : mg "tuple" = none) (m_isinstance : mg "isinstance" = none) : ∀ n, FnOk P w K mg base CX0 (n + 1) f fd ["_law_thing"] (SpD K (AFr n)) := by
  intro n
  induction n with
  | zero =>
    refine D.F.ok scFr (fun vs H Q E h => ?_) (fun cdv A outer s H vs Q E hr h => ?_)
    · obtain ⟨F, ds, d, _, _, ⟨t, _, h, _⟩, _⟩ := h
      cases h
    · obtain ⟨F, ds, d, _, _, ⟨t, _, h, _⟩, _⟩ := h
      cases h
  | succ n ih =>
    refine D.F.ok scFr (fun vs H Q E h => ?_) (fun cdv A outer s H vs Q E hr h => ⟨tFr K (SpD K (AFr n)), ?_, pure_Fr vs H Q E h⟩)
    · obtain ⟨F, ds, d, _, r, ⟨t, _, _, _, rfl, _⟩, _⟩ := h
      exact r.len
    · exact (pss_cons (ps_if (pt_cmpR op_eq (pe_ix ix_tup (pv 0) pe_int (fun _ _ => rfl)) pe_str (nomark _)) (pss_one (ps_ret (pe_lst (pa_cons (pe_tup (pa_cons (pe_ix ix_tup (pv 0) pe_int (fun _ _ => rfl)) (pa_cons (pe_ix ix_tup (pv 0) pe_int (fun _ _ => rfl)) pa_nil))) pa_nil)))) pss_nil)
    (pss_cons (ps_set (i := 1) scFr.nd rfl (Or.inl rfl) (pe_lst pa_nil))
    (pss_cons (ps_for PassesOwn.never (by rfl) (pi_tup (pe_slice sl_tup (pv 0) (po_some pe_int) po_none)) (pg_name (i := 2) scFr.nd rfl (Or.inl rfl)) (pss_one (ps_if (PW.pt (pw_and (pt_val (pe_callB call_isi (by rfl) m_isinstance (by decide +kernel) (pa_cons (pv 2) (pa_cons (pe_bltn (v := .ty "tuple") (by rfl) m_tuple (by decide +kernel) rfl) pa_nil)))) (pw_and (pt_cmpR (op_neD hr.units) (pv 2) (pe_tup pa_nil) (nomark _)) (pw_and1 (pt_cmpR op_ne (pe_ix ix_tup (pv 0) pe_int (fun _ _ => rfl)) pe_str (nomark _)))))) (pss_one (ps_set (i := 1) scFr.nd rfl (Or.inl rfl) (pe_op op_cat (pv 1) (pe_call ih hr (by rfl) D.g D.F.kp D.b .nil pass0 (pa_cons (pv 2) pa_nil))))) pss_nil)))
    (pss_cons (ps_if (pt_cmpR op_eq (pe_ix ix_tup (pv 0) pe_int (fun _ _ => rfl)) pe_str (nomark _)) (pss_one (ps_for PassesOwn.never (by rfl) (pi_tup (pe_ix ix_tup (pv 0) pe_int (fun _ _ => rfl))) (pg_name (i := 2) scFr.nd rfl (Or.inl rfl)) (pss_one (ps_set (i := 1) scFr.nd rfl (Or.inl rfl) (pe_op op_cat (pv 1) (pe_call ih hr (by rfl) D.g D.F.kp D.b .nil pass0 (pa_cons (pv 2) pa_nil))))))) pss_nil)
    (pss_one (ps_ret (pv 1)))))))
end
end Wk
namespace Wk
open PySem PySem.Spec PyProof.Rows L2 Ly Tm
abbrev sRi : Stmt := topS 23
theorem scRi : FnScope ["_law_body", "_law_kind", "_law_term_here", "_law_x", "_law_called", "_law_saying_here"] ["_law_body", "_law_kind", "_law_term_here", "_law_x"] (defScope sRi) := ⟨rfl, rfl, rfl, by decide +kernel, rfl, by decide +kernel, by decide +kernel⟩
def tRi (K : PySem.W.Frag) : TS :=
  (tSeq (tAsg (tCall (SpD K (ANa 20)) [] E0 (tCons (tVar 0) (tCons (tLst (tCons (tC (.int 0)) tNil)) tNil))) (gName 4))
  (tSeq (tAsg (tCall (SpD K (AOpen 20)) [] E0 (tCons (tVar 0) (tCons (tVar 2) tNil))) (gName 5))
  (tSeq (tIfS (tTest (tOp (rNeD K) (tVar 5) (tCall (SpD K (AUn 20)) [] E0 (tCons (tCall (SpD K (ALx 20)) [] E0 (tCons (tVar 4) (tCons (tTup (tCons (tC (.str "var")) (tCons (tC (.int 0)) tNil))) (tCons (tVar 2) tNil)))) (tCons (tLst tNil) tNil))))) (tRet (tC (.bl false))) tNext)
  (tSeq (tAsg (tCall (SpD K (ANa 20)) [] E0 (tCons (tVar 5) (tCons (tLst (tCons (tC (.int 0)) tNil)) tNil))) (gName 4))
  (tSeq (tIfS (tTest (tOp (rNeD K) (tCall (SpD K (AShut 20)) [] E0 (tCons (tVar 5) (tCons (tVar 3) (tCons (tVar 1) tNil)))) (tCall (SpD K (AUn 20)) [] E0 (tCons (tCall (SpD K (ALx 20)) [] E0 (tCons (tVar 4) (tCons (tTup (tCons (tC (.str "name")) (tCons (tVar 3) (tCons (tVar 1) tNil)))) (tCons (tTup (tCons (tC (.str "var")) (tCons (tC (.int 0)) tNil))) tNil)))) (tCons (tLst (tCons (tC (.int 0)) tNil)) tNil))))) (tRet (tC (.bl false))) tNext)
  (tSeq (tIfS (tTest (tOp (rNeD K) (tCall (SpD K (APut 20)) [] E0 (tCons (tVar 5) (tCons (tVar 3) (tCons (tVar 1) (tCons (tVar 2) tNil))))) (tCall (SpD K (AUn 20)) [] E0 (tCons (tCall (SpD K (ALx 20)) [] E0 (tCons (tVar 4) (tCons (tTup (tCons (tC (.str "name")) (tCons (tVar 3) (tCons (tVar 1) tNil)))) (tCons (tVar 2) tNil)))) (tCons (tLst (tCons (tC (.int 0)) tNil)) tNil))))) (tRet (tC (.bl false))) tNext)
  (tRet (tOp (rEqD K) (tCall (SpD K (AShut 20)) [] E0 (tCons (tCall (SpD K (AOpen 20)) [] E0 (tCons (tVar 0) (tCons (tTup (tCons (tC (.str "name")) (tCons (tC (.str "strange")) (tCons (tVar 1) tNil)))) tNil))) (tCons (tC (.str "strange")) (tCons (tVar 1) tNil)))) (tVar 0)))))))))
/-- bodies and terms for which the law asks -/
structure Case (B : Th) (kd : Str) (T : Th) (x : Str) : Prop where
  okB : Ok false 8 B
  clB : Cl 1 B
  okT : Ok false 4 T
  tcT : Tc T
  soK : So kd
  soX : So x
  no : No "strange" B
def ARi (ds : List PyData) (d : PyData) : Prop := ∃ B kd T x, Case B kd T x ∧ ds = [enc B, .str kd, enc T, .str x] ∧ d = .bool true
theorem eq_self {n : Nat} {t : Th} {v : Bool} (h : Ok v n t) : PyData.eqv (enc t) (enc t) = true := SeqAt.eqv_refl _ (lay h).1
theorem ne_self {n : Nat} {t : Th} {v : Bool} (h : Ok v n t) : (!PyData.eqv (enc t) (enc t)) = false := by rw [eq_self h]; rfl
section
variable {P : Program} {w : World} {K : PySem.W.Frag} {mg : Str → Option Value} {base : Heap}
theorem pure_Ri (vs : List V) (H : Hp) (Q : VK) (E : XK) (h : SpD K ARi vs H Q E) : tRi K { nx := fun _ H' => Q .non H', rt := Q } (start ["_law_body", "_law_kind", "_law_term_here", "_law_x", "_law_called", "_law_saying_here"] vs) H := by
  obtain ⟨F, ds, d, s, r, ⟨B, kd, T, x, c, rfl, rfl⟩, q⟩ := h
  obtain ⟨v0, u, rfl, r0, r⟩ := r.uncons
  obtain ⟨v1, u, rfl, r1, r⟩ := r.uncons
  obtain ⟨v2, v3, rfl, r2, r3⟩ := r.two
  have soS : So "strange" := by decide +kernel
  have okS : Ok false 12 (exch none (some T) 0 B) := exch_ok (b := some T) (m := 4) (fun T1 e => by cases e; exact c.okT) (by decide) none 0 c.okB
  have clS : Cl 0 (exch none (some T) 0 B) := cl_open c.tcT 0 c.clB
  have e1 : exch none (some T) 0 B = unnamed [] (lexch (.var 0) T (named [0] B)) := open_eq c.tcT 0 B c.clB
  have e2 : exch (some (.name x kd)) none 0 (exch none (some T) 0 B) = unnamed [0] (lexch (.name x kd) (.lf (.var 0)) (named [0] (exch none (some T) 0 B))) := shut_eq x kd 0 _ clS
  have e3 : exch (some (.name x kd)) (some T) 0 (exch none (some T) 0 B) = unnamed [0] (lexch (.name x kd) T (named [0] (exch none (some T) 0 B))) := put_eq x kd c.tcT 0 _ clS
  have e4 : exch (some (.name "strange" kd)) none 0 (exch none (some (.lf (.name "strange" kd))) 0 B) = B := round_eq "strange" kd 0 B c.no
  have okT1 : Ok true 4 T := tc_ok c.tcT c.okT
  have v1' : Vr [] (lexch (.var 0) T (named [0] B)) := vr_open c.tcT 0 c.clB
  have v2' : Vr [0] (lexch (.name x kd) (.lf (.var 0)) (named [0] (exch none (some T) 0 B))) := vr_dn x kd (fun m => .var (mem_dn m 0 (Nat.zero_le _))) 0 clS
  have v3' : Vr [0] (lexch (.name x kd) T (named [0] (exch none (some T) 0 B))) := vr_dn x kd (fun m => tc_vr _ c.tcT) 0 clS
  generalize hS : exch none (some T) 0 B = S at okS clS e1 e2 e3 v2' v3'
  -- called = named(body, [0])
  refine q_set (ed_call (d := enc (named [0] B)) (ea_cons (ed_var rfl r0) (ea_cons (ed_lst (ea_cons ed_int ea_nil) (by simp)) ea_nil)) ⟨B, [0], by decide, c.okB.up (by decide), c.clB, by decide, rfl, rfl⟩) s fun v4 F1 H1 g1 r4 => ?_
  -- saying = opened(body, term)
  refine q_set (ed_call (d := enc S) (ea_cons (ed_var rfl (r0.at g1.ff)) (ea_cons (ed_var rfl (r2.at g1.ff)) ea_nil)) ⟨B, T, by decide, c.okB.up (by decide), rfl, by rw [hS]⟩) g1.fh fun v5 F2 H2 g2 r5 => ?_
  have g2' := g1.tr g2
  -- saying != unnamed(..)
  have u1 : ∀ σ : L2.St, σ[4]? = some (some v4) → σ[2]? = some (some v2) → ED K (tCall (SpD K (AUn 20)) [] E0 (tCons (tCall (SpD K (ALx 20)) [] E0 (tCons (tVar 4) (tCons (tTup (tCons (tC (.str "var")) (tCons (tC (.int 0)) tNil))) (tCons (tVar 2) tNil)))) (tCons (tLst tNil) tNil))) σ F2 H2 (enc S) := fun σ h4 h2 => by
    rw [e1]
    exact ed_call (ea_cons (ed_call (d := enc (lexch (.var 0) T (named [0] B))) (ea_cons (ed_var h4 (r4.at g2.ff)) (ea_cons (ed_tup (ea_cons ed_str (ea_cons ed_int ea_nil)) (by simp)) (ea_cons (ed_var h2 (r2.at g2'.ff)) ea_nil))) ⟨named [0] B, .var 0, T, by decide, (named_ok [0] c.okB).up (by decide), trivial, rfl, rfl⟩) (ea_cons (ed_lst ea_nil (by simp)) ea_nil))
      ⟨_, [], by decide, (lexch_ok okT1 (.var 0) (named_ok [0] c.okB)).up (by decide), v1', by decide, rfl, rfl⟩
  refine q_when (b := !PyData.eqv (enc S) (enc S)) (eb_test (ed_op (ed_var rfl r5) (u1 _ rfl rfl) (rr_neD (shaped_ok okS (by decide)) (shaped_ok okS (by decide))))) g2'.fh (fun e => by rw [ne_self okS] at e; cases e) (fun _ F3 H3 g3 => ?_)
  have g3' := g2'.tr g3
  have r5 := r5.at g3.ff
  -- called = named(saying, [0])
  refine q_set (ed_call (d := enc (named [0] S)) (ea_cons (ed_var rfl r5) (ea_cons (ed_lst (ea_cons ed_int ea_nil) (by simp)) ea_nil)) ⟨S, [0], by decide, okS.up (by decide), cl_up clS (by decide), by decide, rfl, rfl⟩) g3'.fh fun v4 F4 H4 g4 r4 => ?_
  have g4' := g3'.tr g4
  have r5 := r5.at g4.ff
  have w1 := r1.at g4'.ff
  have w2 := r2.at g4'.ff
  have w3 := r3.at g4'.ff
  -- shut(..) != unnamed(..)
  have okA : Ok false 13 (exch (some (.name x kd)) none 0 S) := exch_ok (b := none) (m := 1) (fun T1 e => nomatch e) (by decide) _ 0 okS
  have a1 : ∀ σ : L2.St, σ[5]? = some (some v5) → σ[3]? = some (some v3) → σ[1]? = some (some v1) → ED K (tCall (SpD K (AShut 20)) [] E0 (tCons (tVar 5) (tCons (tVar 3) (tCons (tVar 1) tNil)))) σ F4 H4 (enc (exch (some (.name x kd)) none 0 S)) := fun σ h5 h3 h1 =>
    ed_call (ea_cons (ed_var h5 r5) (ea_cons (ed_var h3 w3) (ea_cons (ed_var h1 w1) ea_nil))) ⟨S, x, kd, by decide, okS.up (by decide), c.soX, c.soK, rfl, rfl⟩
  have a2 : ∀ σ : L2.St, σ[4]? = some (some v4) → σ[3]? = some (some v3) → σ[1]? = some (some v1) → ED K (tCall (SpD K (AUn 20)) [] E0 (tCons (tCall (SpD K (ALx 20)) [] E0 (tCons (tVar 4) (tCons (tTup (tCons (tC (.str "name")) (tCons (tVar 3) (tCons (tVar 1) tNil)))) (tCons (tTup (tCons (tC (.str "var")) (tCons (tC (.int 0)) tNil))) tNil)))) (tCons (tLst (tCons (tC (.int 0)) tNil)) tNil))) σ F4 H4 (enc (exch (some (.name x kd)) none 0 S)) := fun σ h4 h3 h1 => by
    rw [e2]
    exact ed_call (ea_cons (ed_call (d := enc (lexch (.name x kd) (.lf (.var 0)) (named [0] S))) (ea_cons (ed_var h4 r4) (ea_cons (ed_tup (ea_cons ed_str (ea_cons (ed_var h3 w3) (ea_cons (ed_var h1 w1) ea_nil))) (by simp)) (ea_cons (ed_tup (ea_cons ed_str (ea_cons ed_int ea_nil)) (by simp)) ea_nil))) ⟨named [0] S, .name x kd, .lf (.var 0), by decide, (named_ok [0] okS).up (by decide), ⟨c.soX, c.soK⟩, rfl, rfl⟩) (ea_cons (ed_lst (ea_cons ed_int ea_nil) (by simp)) ea_nil))
      ⟨_, [0], by decide, (lexch_ok (m := 1) (b := .lf (.var 0)) (Ok.lf (l := .var 0) trivial rfl) (.name x kd) (named_ok [0] okS)).up (by decide), v2', by decide, rfl, rfl⟩
  refine q_when (b := !PyData.eqv (enc (exch (some (.name x kd)) none 0 S)) (enc (exch (some (.name x kd)) none 0 S))) (eb_test (ed_op (a1 _ rfl rfl rfl) (a2 _ rfl rfl rfl) (rr_neD (shaped_ok okA (by decide)) (shaped_ok okA (by decide))))) g4'.fh (fun e => by rw [ne_self okA] at e; cases e) (fun _ F5 H5 g5 => ?_)
  have g5' := g4'.tr g5
  have r5 := r5.at g5.ff
  have r4 := r4.at g5.ff
  have w1 := r1.at g5'.ff
  have w2 := r2.at g5'.ff
  have w3 := r3.at g5'.ff
  -- put_in(..) != unnamed(..)
  have okA : Ok false 16 (exch (some (.name x kd)) (some T) 0 S) := exch_ok (b := some T) (m := 4) (fun T1 e => by cases e; exact c.okT) (by decide) _ 0 okS
  have a1 : ∀ σ : L2.St, σ[5]? = some (some v5) → σ[3]? = some (some v3) → σ[1]? = some (some v1) → σ[2]? = some (some v2) → ED K (tCall (SpD K (APut 20)) [] E0 (tCons (tVar 5) (tCons (tVar 3) (tCons (tVar 1) (tCons (tVar 2) tNil))))) σ F5 H5 (enc (exch (some (.name x kd)) (some T) 0 S)) := fun σ h5 h3 h1 h2 =>
    ed_call (ea_cons (ed_var h5 r5) (ea_cons (ed_var h3 w3) (ea_cons (ed_var h1 w1) (ea_cons (ed_var h2 w2) ea_nil)))) ⟨S, x, kd, T, by decide, okS.up (by decide), c.soX, c.soK, rfl, rfl⟩
  have a2 : ∀ σ : L2.St, σ[4]? = some (some v4) → σ[3]? = some (some v3) → σ[1]? = some (some v1) → σ[2]? = some (some v2) → ED K (tCall (SpD K (AUn 20)) [] E0 (tCons (tCall (SpD K (ALx 20)) [] E0 (tCons (tVar 4) (tCons (tTup (tCons (tC (.str "name")) (tCons (tVar 3) (tCons (tVar 1) tNil)))) (tCons (tVar 2) tNil)))) (tCons (tLst (tCons (tC (.int 0)) tNil)) tNil))) σ F5 H5 (enc (exch (some (.name x kd)) (some T) 0 S)) := fun σ h4 h3 h1 h2 => by
    rw [e3]
    exact ed_call (ea_cons (ed_call (d := enc (lexch (.name x kd) T (named [0] S))) (ea_cons (ed_var h4 r4) (ea_cons (ed_tup (ea_cons ed_str (ea_cons (ed_var h3 w3) (ea_cons (ed_var h1 w1) ea_nil))) (by simp)) (ea_cons (ed_var h2 w2) ea_nil))) ⟨named [0] S, .name x kd, T, by decide, (named_ok [0] okS).up (by decide), ⟨c.soX, c.soK⟩, rfl, rfl⟩) (ea_cons (ed_lst (ea_cons ed_int ea_nil) (by simp)) ea_nil))
      ⟨_, [0], by decide, (lexch_ok okT1 (.name x kd) (named_ok [0] okS)).up (by decide), v3', by decide, rfl, rfl⟩
  refine q_when (b := !PyData.eqv (enc (exch (some (.name x kd)) (some T) 0 S)) (enc (exch (some (.name x kd)) (some T) 0 S))) (eb_test (ed_op (a1 _ rfl rfl rfl rfl) (a2 _ rfl rfl rfl rfl) (rr_neD (shaped_ok okA (by decide)) (shaped_ok okA (by decide))))) g5'.fh (fun e => by rw [ne_self okA] at e; cases e) (fun _ F6 H6 g6 => ?_)
  have g6' := g5'.tr g6
  have w0 := r0.at g6'.ff
  have w1 := r1.at g6'.ff
  have okB' : Ok false 9 (exch none (some (.lf (.name "strange" kd))) 0 B) := exch_ok (b := some (.lf (.name "strange" kd))) (m := 1) (fun T1 e => by cases e; exact .lf ⟨soS, c.soK⟩ trivial) (by decide) none 0 c.okB
  have fin : ∀ σ : L2.St, σ[0]? = some (some v0) → σ[1]? = some (some v1) → ED K (tCall (SpD K (AShut 20)) [] E0 (tCons (tCall (SpD K (AOpen 20)) [] E0 (tCons (tVar 0) (tCons (tTup (tCons (tC (.str "name")) (tCons (tC (.str "strange")) (tCons (tVar 1) tNil)))) tNil))) (tCons (tC (.str "strange")) (tCons (tVar 1) tNil)))) σ F6 H6 (enc B) := fun σ h0 h1 =>
    ed_call (ea_cons (ed_call (d := enc (exch none (some (.lf (.name "strange" kd))) 0 B)) (ea_cons (ed_var h0 w0) (ea_cons (ed_tup (ea_cons ed_str (ea_cons ed_str (ea_cons (ed_var h1 w1) ea_nil))) (by simp)) ea_nil)) ⟨B, .lf (.name "strange" kd), by decide, c.okB.up (by decide), rfl, rfl⟩) (ea_cons ed_str (ea_cons (ed_var h1 w1) ea_nil))) ⟨_, "strange", kd, by decide, okB'.up (by decide), soS, c.soK, rfl, by rw [e4]⟩
  refine q_ret (ed_op (fin _ rfl rfl) (ed_var rfl w0) (rr_eqD (shaped_ok c.okB (by decide)) (shaped_ok c.okB (by decide)))) g6'.fh fun v F7 H7 g7 r7 => ?_
  rw [eq_self c.okB] at r7
  exact q v F7 H7 (g6'.tr g7) r7
theorem ok_Ri {f f1 f2 f3 f4 f5 f6 : Addr} {fd fd1 fd2 fd3 fd4 fd5 fd6 : FuncData} (D : Df K mg "_law_right" sRi ["_law_body", "_law_kind", "_law_term_here", "_law_x"] f fd) (DNa : Df K mg "_law_named" sNa ["_law_thing", "_law_around"] f1 fd1) (DOp : Df K mg "opened" sOpen ["body", "term"] f2 fd2) (DUn : Df K mg "_law_unnamed" sUn ["_law_thing", "_law_around"] f3 fd3)
    (DLx : Df K mg "_law_exchanged" sLx ["_law_thing", "_law_old", "_law_new"] f4 fd4) (DSh : Df K mg "shut" sShut ["saying", "x", "kind"] f5 fd5) (DPu : Df K mg "put_in" sPut ["saying", "x", "kind", "term"] f6 fd6)
    (GNa : FnOk P w K mg base CX0 21 f1 fd1 ["_law_thing", "_law_around"] (SpD K (ANa 20))) (GOp : FnOk P w K mg base CX0 22 f2 fd2 ["body", "term"] (SpD K (AOpen 20))) (GUn : FnOk P w K mg base CX0 21 f3 fd3 ["_law_thing", "_law_around"] (SpD K (AUn 20)))
    (GLx : FnOk P w K mg base CX0 21 f4 fd4 ["_law_thing", "_law_old", "_law_new"] (SpD K (ALx 20))) (GSh : FnOk P w K mg base CX0 22 f5 fd5 ["saying", "x", "kind"] (SpD K (AShut 20))) (GPu : FnOk P w K mg base CX0 22 f6 fd6 ["saying", "x", "kind", "term"] (SpD K (APut 20))) :
    FnOk P w K mg base CX0 23 f fd ["_law_body", "_law_kind", "_law_term_here", "_law_x"] (SpD K ARi) := by
  refine D.F.ok scRi (fun vs H Q E h => ?_) (fun cdv A outer s H vs Q E hr h => ⟨tRi K, ?_, pure_Ri vs H Q E h⟩)
  · obtain ⟨F, ds, d, _, r, ⟨_, _, _, _, _, rfl, _⟩, _⟩ := h
    exact r.len
  · exact (pss_cons (ps_set (i := 4) scRi.nd rfl (Or.inl rfl) (pe_call GNa (hr.mono (by decide)) (by rfl) DNa.g DNa.F.kp DNa.b .nil pass0 (pa_cons (pv 0) (pa_cons (pe_lst (pa_cons pe_int pa_nil)) pa_nil))))
    (pss_cons (ps_set (i := 5) scRi.nd rfl (Or.inl rfl) (pe_call GOp (hr.mono (by decide)) (by rfl) DOp.g DOp.F.kp DOp.b .nil pass0 (pa_cons (pv 0) (pa_cons (pv 2) pa_nil))))
    (pss_cons (ps_if (pt_cmpR (op_neD hr.units) (pv 5) (pe_call GUn (hr.mono (by decide)) (by rfl) DUn.g DUn.F.kp DUn.b .nil pass0 (pa_cons (pe_call GLx (hr.mono (by decide)) (by rfl) DLx.g DLx.F.kp DLx.b .nil pass0 (pa_cons (pv 4) (pa_cons (pe_tup (pa_cons pe_str (pa_cons pe_int pa_nil))) (pa_cons (pv 2) pa_nil)))) (pa_cons (pe_lst pa_nil) pa_nil))) (nomark _)) (pss_one (ps_ret pe_bl)) pss_nil)
    (pss_cons (ps_set (i := 4) scRi.nd rfl (Or.inl rfl) (pe_call GNa (hr.mono (by decide)) (by rfl) DNa.g DNa.F.kp DNa.b .nil pass0 (pa_cons (pv 5) (pa_cons (pe_lst (pa_cons pe_int pa_nil)) pa_nil))))
    (pss_cons (ps_if (pt_cmpR (op_neD hr.units) (pe_call GSh (hr.mono (by decide)) (by rfl) DSh.g DSh.F.kp DSh.b .nil pass0 (pa_cons (pv 5) (pa_cons (pv 3) (pa_cons (pv 1) pa_nil)))) (pe_call GUn (hr.mono (by decide)) (by rfl) DUn.g DUn.F.kp DUn.b .nil pass0 (pa_cons (pe_call GLx (hr.mono (by decide)) (by rfl) DLx.g DLx.F.kp DLx.b .nil pass0 (pa_cons (pv 4) (pa_cons (pe_tup (pa_cons pe_str (pa_cons (pv 3) (pa_cons (pv 1) pa_nil)))) (pa_cons (pe_tup (pa_cons pe_str (pa_cons pe_int pa_nil))) pa_nil)))) (pa_cons (pe_lst (pa_cons pe_int pa_nil)) pa_nil))) (nomark _)) (pss_one (ps_ret pe_bl)) pss_nil)
    (pss_cons (ps_if (pt_cmpR (op_neD hr.units) (pe_call GPu (hr.mono (by decide)) (by rfl) DPu.g DPu.F.kp DPu.b .nil pass0 (pa_cons (pv 5) (pa_cons (pv 3) (pa_cons (pv 1) (pa_cons (pv 2) pa_nil))))) (pe_call GUn (hr.mono (by decide)) (by rfl) DUn.g DUn.F.kp DUn.b .nil pass0 (pa_cons (pe_call GLx (hr.mono (by decide)) (by rfl) DLx.g DLx.F.kp DLx.b .nil pass0 (pa_cons (pv 4) (pa_cons (pe_tup (pa_cons pe_str (pa_cons (pv 3) (pa_cons (pv 1) pa_nil)))) (pa_cons (pv 2) pa_nil)))) (pa_cons (pe_lst (pa_cons pe_int pa_nil)) pa_nil))) (nomark _)) (pss_one (ps_ret pe_bl)) pss_nil)
    (pss_one (ps_ret (pe_cmpR (op_eqD hr.units) (pe_call GSh (hr.mono (by decide)) (by rfl) DSh.g DSh.F.kp DSh.b .nil pass0 (pa_cons (pe_call GOp (hr.mono (by decide)) (by rfl) DOp.g DOp.F.kp DOp.b .nil pass0 (pa_cons (pv 0) (pa_cons (pe_tup (pa_cons pe_str (pa_cons pe_str (pa_cons (pv 1) pa_nil)))) pa_nil))) (pa_cons pe_str (pa_cons (pv 1) pa_nil)))) (pv 0) (nomark _))))))))))
end
abbrev sFg : Stmt := topS 24
theorem scFg : FnScope ["_law_sayings", "_law_found", "_law_due", "_law_saying_here"] ["_law_sayings"] (defScope sFg) := ⟨rfl, rfl, rfl, by decide +kernel, rfl, by decide +kernel, by decide +kernel⟩
def tFg (K : PySem.W.Frag) (P : Program) (w : World) : TS :=
  (tSeq (tAsg (tCall (SpL K (AFi 20)) [] E0 (tCons (tVar 0) tNil)) (gName 1))
  (tSeq (tAsg (tLst tNil) (gName 2))
  (tSeq (tFor (iList K (tVar 0)) (gName 3) (tAsg (tOp rCat (tVar 2) (tCall (SpD K (AFr 20)) [] E0 (tCons (tVar 3) tNil))) (gName 2)))
  (tSeq (tIfS (tOr (tNot (tB (tCB (rIsi K) (tCons (tVar 1) (tCons (tC (.ty "list")) tNil))))) (tTest (tOp (rNeD K) (tVar 1) (tCB (SetK.rSortedS K P w) (tCons (tCB (SetK.rSetS K P w) (tCons (tVar 2) tNil)) tNil))))) (tRet (tC (.bl false))) tNext)
  (tSeq (tDrop (tBM K "list" rAppend (tVar 1) (tCons (tTup (tCons (tC (.str "x")) (tCons (tC (.str "x")) tNil))) tNil)))
  (tRet (tOp (rEqD K) (tCall (SpL K (AFi 20)) [] E0 (tCons (tVar 0) tNil)) (tCB (SetK.rSortedS K P w) (tCons (tCB (SetK.rSetS K P w) (tCons (tVar 2) tNil)) tNil)))))))))
def AFg (ds : List PyData) (d : PyData) : Prop := ∃ ts : List Th, (∀ t ∈ ts, Ok false 20 t) ∧ ts.length ≤ 1000 ∧ wts ts ≤ 10000 ∧ SetK.FewS (namess ts) ∧ (∀ x ∈ namess ts, ∀ y ∈ x, So y) ∧ ds = [.list (ts.map enc)] ∧ d = .bool true
theorem lay_keys : ∀ ks : List (List Str), (∀ x ∈ ks, ∀ y ∈ x, So y) → PyData.canLayAll0 (ks.map SetK.encT) = true ∧ PyData.depthAll (ks.map SetK.encT) ≤ 2
  | [], _ => ⟨by simp [PyData.canLayAll0], by simp [PyData.depthAll]⟩
  | x :: ks, h => by
    obtain ⟨a, b⟩ := lay_keys ks fun z hz => h z (List.mem_cons_of_mem _ hz)
    have key : ∀ x : List Str, (∀ y ∈ x, So y) → PyData.canLayAll0 (x.map .str) = true ∧ PyData.depthAll (x.map .str) = 0 := by
      intro x
      induction x with
      | nil => exact fun _ => ⟨by simp [PyData.canLayAll0], by simp [PyData.depthAll]⟩
      | cons y x ih =>
        intro hx
        obtain ⟨p, q⟩ := ih fun z hz => hx z (List.mem_cons_of_mem _ hz)
        have e := hx y List.mem_cons_self
        exact ⟨by simp [PyData.canLayAll0, PyData.canLay0, e, p], by simp [PyData.depthAll, PyData.depth, q]⟩
    obtain ⟨c, d⟩ := key x (h x List.mem_cons_self)
    refine ⟨?_, ?_⟩
    · simp [PyData.canLayAll0, PyData.canLay0, a, c]
    · simp only [List.map_cons, PyData.depthAll, PyData.depth, d]
      omega
theorem shaped_keys {ks : List (List Str)} (h : ∀ x ∈ ks, ∀ y ∈ x, So y) : SeqAt.shaped (.list (ks.map SetK.encT)) = true := by
  obtain ⟨a, b⟩ := lay_keys ks h
  unfold SeqAt.shaped
  rw [show (PyData.list (ks.map SetK.encT)).canLay0 = true by simp [PyData.canLay0, a], Bool.true_and, decide_eq_true_eq]
  simp only [PyData.depth]
  omega
section
variable {P : Program} {w : World} {K : PySem.W.Frag} {mg : Str → Option Value} {base : Heap}
theorem pure_Fg (vs : List V) (H : Hp) (Q : VK) (E : XK) (h : SpD K AFg vs H Q E) : tFg K P w { nx := fun _ H' => Q .non H', rt := Q } (start ["_law_sayings", "_law_found", "_law_due", "_law_saying_here"] vs) H := by
  obtain ⟨F, ds, d, s, r, ⟨ts, ok, hl, hw, few, so, rfl, rfl⟩, q⟩ := h
  obtain ⟨v0, rfl, r0⟩ := r.one
  have soS : ∀ x ∈ SetK.sset (namess ts), ∀ y ∈ x, So y := fun x hx => so x (SetK.mem_sset.mp hx)
  have sh := shaped_keys soS
  have lay1 : (PyData.list ((SetK.sset (namess ts)).map SetK.encT)).canLay0 = true := SeqAt.canLay_of_shaped sh
  -- found = free_in(sayings)
  refine q_setCallL (.refl s) (ea_cons (ed_var rfl r0) ea_nil) ⟨ts, ok, hl, hw, few, rfl, rfl⟩ fun p F1 H1 o1 g1 => ?_
  -- due = []
  refine q_set (K := K) (d := .list []) (ed_lst ea_nil (by simp)) o1.gr.fh fun vd F2 H2 g2 rd => ?_
  have o2 := o1.more g2
  -- for saying in sayings: due = due + free(saying)
  refine q_forL (ed_var rfl (r0.at o2.gr.ff)) o2.gr.fh fun F3 H3 g3 => ?_
  have o3 := o2.more g3
  refine ⟨fun i σ2 H4 => ∃ F4 v z, σ2 = [some v0, some (.ref p), some v, z] ∧ Gr [] F3 H3 F4 H4 ∧ R K F4 v (.list ((namess (ts.take i)).map SetK.encT)), ⟨F3, vd, none, rfl, .refl g3.fh, rd.at g3.ff⟩, fun i σ2 H4 ⟨F4, v, z, _, g4, _⟩ => ⟨F4, g4.fh, g4.ff⟩, ?_, ?_⟩
  · rintro i x d σ2 H4 hd rx ⟨F4, v, z, rfl, g4, rv⟩
    obtain ⟨t, ht, rfl⟩ := get_map hd
    have hm := List.mem_of_getElem? ht
    have et : ts.take (i + 1) = ts.take i ++ [t] := by rw [List.take_succ, ht]; rfl
    have hwt := wt_mem hm
    refine (ed_op (ed_var rfl rv) (ed_call (ea_cons (ed_var rfl (rx.at g4.ff)) ea_nil) ⟨t, by decide, ok t hm, by omega, rfl, rfl⟩) (rr_cat ?_)).go g4.fh fun u F5 H5 g5 ru => ?_
    · have h1 := namess_len (ts.take i)
      have h2 := wts_take ts i
      have h3 := names_len t
      rw [List.length_map, List.length_map]
      omega
    · refine ⟨F5, u, some x, rfl, g4.tr g5, ?_⟩
      rw [et, namess_app]
      show R K F5 u (.list ((namess (ts.take i) ++ (names t ++ [])).map SetK.encT))
      rw [List.append_nil, List.map_append]
      exact ru
  · rintro σ2 H4 ⟨F4, v, z, rfl, g4, rv⟩
    rw [List.length_map, List.take_length] at rv
    have o4 := o3.more g4
    obtain ⟨l, acc, rfl, hs, ra⟩ := rv.asLst
    obtain ⟨ac1, h1, h2, ra1⟩ := o4.ex
    -- not isinstance(found, list) or found != sorted(set(due))
    refine ⟨.ref p, rfl, .ref p, .ty "list", .type "list", .type "list", true, rfl, .ty "list", .base (.lst h1), kit_ty (by decide +kernel), true, rfl, ?_⟩
    refine iteF ⟨.ref p, rfl, ?_⟩
    refine sset_wp (F0 := F) (H0 := H) o4.gr rfl (.inl (.inl (o4.gr.fh _ _ hs))) ra few (fun x hx => namess_ne ts x hx) fun p2 F5 H5 o5 s5 g5 => ?_
    have o4' := o4.more g5
    refine ⟨_, _, o4'.dp, o5.dp, sh, sh, false, by rw [SeqAt.eqv_refl _ lay1]; rfl, iteF ?_⟩
    -- found.append(('x', 'x'))
    refine own_append (D := { nx := fun σ H => (tRet _) _ σ H, rt := Q }) o4' rfl (ed_tup (ea_cons ed_str (ea_cons ed_str ea_nil)) (by simp)) ?_ fun F6 H6 o6 s6 => ?_
    · rw [List.length_map]
      have := few (SetK.sset (namess ts)) (SetK.nodup_sset _) fun x hx => SetK.mem_sset.mp hx
      omega
    · have s46 := s5.trans s6
      -- free_in(sayings) == sorted(set(due))
      refine (ed_callL (ea_cons (ed_var rfl (r0.at o6.gr.ff)) ea_nil) ⟨ts, ok, hl, hw, few, rfl, rfl⟩).go o6.gr.fh fun u F7 H7 g7 ru => ?_
      have g67 := o6.gr.tr g7
      have hs7 := g7.ff _ _ (s46 _ _ hs)
      refine sset_wp (F0 := F) (H0 := H) g67 rfl (.inl (.inl (g7.fh _ _ hs7))) ((ra.at s46).at g7.ff) few (fun x hx => namess_ne ts x hx) fun p3 F8 H8 o8 s8 g8 => ?_
      refine ⟨_, _, (ru.at g8.ff).dp g8.fh _ _, o8.dp, sh, sh, ?_⟩
      rw [SeqAt.eqv_refl _ lay1]
      exact q _ F8 H8 o8.gr (.bl true)
theorem ok_Fg {f f1 f2 : Addr} {fd fd1 fd2 : FuncData} (D : Df K mg "_law_free_right" sFg ["_law_sayings"] f fd) (DFi : Df K mg "free_in" sFi ["sayings"] f1 fd1) (DFr : Df K mg "_law_free" sFr ["_law_thing"] f2 fd2)
    (GFi : FnOk P w K mg base CX0 22 f1 fd1 ["sayings"] (SpL K (AFi 20))) (GFr : FnOk P w K mg base CX0 21 f2 fd2 ["_law_thing"] (SpD K (AFr 20))) (m_isinstance : mg "isinstance" = none) (m_list : mg "list" = none) (m_sorted : mg "sorted" = none) (m_set : mg "set" = none) :
    FnOk P w K mg base CX0 23 f fd ["_law_sayings"] (SpD K AFg) := by
  refine D.F.ok scFg (fun vs H Q E h => ?_) (fun cdv A outer s H vs Q E hr h => ⟨tFg K P w, ?_, pure_Fg vs H Q E h⟩)
  · obtain ⟨F, ds, d, _, r, ⟨_, _, _, _, _, _, rfl, _⟩, _⟩ := h
    exact r.len
  · have huS : (A.deeper (envOfC "_law_free_right" (defScope sFg) s.heap.objs.size f cdv)).units + 100 < cLine := by
      have := hr.un
      omega
    exact (pss_cons (ps_set (i := 1) scFg.nd rfl (Or.inl rfl) (pe_call GFi (hr.mono (by decide)) (by rfl) DFi.g DFi.F.kp DFi.b .nil pass0 (pa_cons (pv 0) pa_nil)))
    (pss_cons (ps_set (i := 2) scFg.nd rfl (Or.inl rfl) (pe_lst pa_nil))
    (pss_cons (ps_for PassesOwn.never (by rfl) (pi_list (pv 0)) (pg_name (i := 3) scFg.nd rfl (Or.inl rfl)) (pss_one (ps_set (i := 2) scFg.nd rfl (Or.inl rfl) (pe_op op_cat (pv 2) (pe_call GFr (hr.mono (by decide)) (by rfl) DFr.g DFr.F.kp DFr.b .nil pass0 (pa_cons (pv 3) pa_nil))))))
    (pss_cons (ps_if (PW.pt (pw_or (pt_not (pt_val (pe_callB call_isi (by rfl) m_isinstance (by decide +kernel) (pa_cons (pv 1) (pa_cons (pe_bltn (v := .ty "list") (by rfl) m_list (by decide +kernel) rfl) pa_nil))))) (pw_or1 (pt_cmpR (op_neD hr.units) (pv 1) (pe_callB (SetK.cr_sortedS (by rfl) huS) (by rfl) m_sorted (by decide +kernel) (pa_cons (pe_callTy (SetK.cr_setS (by rfl) huS) (by rfl) m_set (by decide +kernel) (pa_cons (pv 2) pa_nil)) pa_nil)) (nomark _))))) (pss_one (ps_ret pe_bl)) pss_nil)
    (pss_cons (ps_expr (pe_bm PySem.F.plainAttrs_list PySem.F.slot_list_append PySem.F.type_list_append mt_append (pv 1) (pa_cons (pe_tup (pa_cons pe_str (pa_cons pe_str pa_nil))) pa_nil)))
    (pss_one (ps_ret (pe_cmpR (op_eqD hr.units) (pe_call GFi (hr.mono (by decide)) (by rfl) DFi.g DFi.F.kp DFi.b .nil pass0 (pa_cons (pv 0) pa_nil)) (pe_callB (SetK.cr_sortedS (by rfl) huS) (by rfl) m_sorted (by decide +kernel) (pa_cons (pe_callTy (SetK.cr_setS (by rfl) huS) (by rfl) m_set (by decide +kernel) (pa_cons (pv 2) pa_nil)) pa_nil)) (nomark _)))))))))
end
end Wk
/-! comprehensions with tests; a state (a list of two ints) that calls change; own lists. -/
namespace Ly
open PySem L2
section
variable {K : PySem.W.Frag} {te ta tb : TE} {σ : L2.St} {F H F1 H1 : Hp} {d e : PyData} {ds es : List PyData} {tr : TA} {D : Ends} {tz tu tw : TS}
theorem Mk.skip {Dl : Addr} {es : List PyData} (m : Mk K F H Dl es H1) {tt : TT} (he : ∀ F1, Gr [] F H F1 H1 → EB tt σ F1 H1 false) {A : Hp → Prop} {Q : Hp → Prop} (q : ∀ H2, Mk K F H Dl es H2 → Q H2) : tt σ H1 fun b H3 => if b = true then A H3 else Q H3 := by
  obtain ⟨F1, acc, g, h0, h1, h2, ra⟩ := m
  refine (he F1 g).go g.fh fun F2 H2 g2 => iteF (q H2 ⟨F2, acc, g.tr g2, h0, g2.hh _ _ (fun z => nomatch z) h1, g2.still h2 h1, ra.at g2.ff⟩)
theorem Mk.pass {Dl : Addr} {es : List PyData} (m : Mk K F H Dl es H1) {tt : TT} (he : ∀ F1, Gr [] F H F1 H1 → EB tt σ F1 H1 true) {A : Hp → Prop} {Q : Hp → Prop} (q : ∀ H2, Mk K F H Dl es H2 → A H2) : tt σ H1 fun b H3 => if b = true then A H3 else Q H3 := by
  obtain ⟨F1, acc, g, h0, h1, h2, ra⟩ := m
  refine (he F1 g).go g.fh fun F2 H2 g2 => iteT (q H2 ⟨F2, acc, g.tr g2, h0, g2.hh _ _ (fun z => nomatch z) h1, g2.still h2 h1, ra.at g2.ff⟩)
/-- [f a for a in xs if p a], over any walk -/
theorem lc_pure {α : Type} {xs : List α} {p : α → Bool} {f : α → PyData} {J : It} {G : Hp → Prop} {Y : Nat → Hp → V → Hp → Prop} {rel : α → V → Prop} {tt : TT} {j : Nat} {vs : List Nat} {Dl : Addr} {Q : VK}
    (w : Walk J xs.length G Y) (hY : ∀ i H x H', Y i H x H' → H' = H ∧ ∃ a, xs[i]? = some a ∧ rel a x) (s : Same F H) (nD : H Dl = none) (hG : ∀ F3 H3, Gr [] F H F3 H3 → G H3) (hz : xs.length ≤ 50000) (hw : ∀ x, wipe ((wipe σ vs).set j (some x)) vs = wipe σ vs)
    (ht : ∀ a x F3 H3, a ∈ xs → rel a x → Gr [] F H F3 H3 → EB tt ((wipe σ vs).set j (some x)) F3 H3 (p a))
    (he : ∀ a x F3 H3, a ∈ xs → p a = true → rel a x → Gr [] F H F3 H3 → ED K te ((wipe σ vs).set j (some x)) F3 H3 (f a))
    (q : ∀ v F2 H2, Gr [] F H F2 H2 → R K F2 v (.list ((xs.filter p).map f)) → Q v H2) :
    ∃ W : Nat → Nat → Hp → Prop, (∃ m, W 0 m (upd H Dl (.lst []))) ∧ ∀ i m H, W i m H →
      (J.stop i H ∧ Q (.ref Dl) H) ∨ (J.go i H ∧ ∃ Nx : Hp → Prop, (∀ H', Nx H' → ∃ m', m' < m ∧ W (i + 1) m' H') ∧ ∀ x H', J.yld i H x H' → (gName j) x (wipe σ vs) H' fun σ2 H2 => wipe σ2 vs = wipe σ vs ∧ tt σ2 H2 fun b H3 =>
        if b = true then te σ2 H3 fun y H4 => ∃ acc, H4 Dl = some (.lst acc) ∧ acc.length < sizeLine ∧ Nx (upd H4 Dl (.lst (acc ++ [y]))) else Nx H3) := by
  refine lc_it w (g := gName j) (fun i H3 => Mk K F H Dl (((xs.take i).filter p).map f) H3) (Mk.start s nD) (fun i H3 _ m => ?_) (fun i x H3 H4 hi m y => ?_) fun H3 m => ?_
  · obtain ⟨F3, g3⟩ := m.gr
    exact hG F3 H3 g3
  · obtain ⟨rfl, a, ha, ra⟩ := hY i H3 x H4 y
    have hm := List.mem_of_getElem? ha
    have et : xs.take (i + 1) = xs.take i ++ [a] := by rw [List.take_succ, ha]; rfl
    refine ⟨hw x, ?_⟩
    rw [et, List.filter_append, List.map_append]
    cases hp : p a with
    | false =>
      rw [show [a].filter p = [] by simp [hp]]
      show tt _ H4 _
      refine m.skip (fun F5 g5 => by rw [← hp]; exact ht a x F5 H4 hm ra g5) fun H5 m5 => ?_
      rw [List.map_nil, List.append_nil]
      exact m5
    | true =>
      rw [show [a].filter p = [a] by simp [hp]]
      show tt _ H4 _
      refine m.pass (fun F5 g5 => by rw [← hp]; exact ht a x F5 H4 hm ra g5) fun H5 m5 => ?_
      refine m5.turn ?_ fun F6 g6 => he a x F6 H5 hm hp ra g6
      rw [List.length_map]
      have h1 := List.length_filter_le p (xs.take i)
      rw [List.length_take] at h1
      omega
  · rw [List.take_length] at m
    exact m.done q
theorem ed_lcLF {α : Type} {xs : List α} {e f : α → PyData} {p : α → Bool} {tt : TT} {j : Nat} {vs : List Nat} (h : ED K te σ F H (.list (xs.map e))) (hz : xs.length ≤ 50000) (hw : ∀ x, wipe ((wipe σ vs).set j (some x)) vs = wipe σ vs)
    (ht : ∀ a x F1 H1, a ∈ xs → Bx F H F1 H1 → R K F1 x (e a) → EB tt ((wipe σ vs).set j (some x)) F1 H1 (p a))
    (he : ∀ a x F1 H1, a ∈ xs → p a = true → Bx F H F1 H1 → R K F1 x (e a) → ED K ta ((wipe σ vs).set j (some x)) F1 H1 (f a)) : ED K (tLc (iList K te) (gName j) tt ta vs) σ F H (.list ((xs.filter p).map f)) := fun F1 H1 g Q q => by
  refine h F1 H1 g _ fun v F2 H2 g2 r => ?_
  obtain ⟨a, ys, rfl, hs, ra⟩ := r.asLst
  refine ⟨a, rfl, ⟨ys, .inl (.inl (g2.fh _ _ hs))⟩, fun Dl nD => ?_⟩
  have hl : ys.length = xs.length := by rw [ra.len, List.length_map]
  refine lc_pure (xs := xs) (rel := fun a x => R K F2 x (e a)) (w := hl ▸ walk_list (K := K) (a := a) (xs := ys)) (fun i H x H' y => ⟨y.1, ?_⟩) g2.fh nD (fun F3 H3 g3 => .inl (.inl (g3.fh _ _ (g3.ff _ _ hs)))) hz hw (fun a x F3 H3 ha ra g3 => ht a x F3 H3 ha ((g.tr g2).tr g3) (ra.at g3.ff)) (fun a x F3 H3 ha hp ra g3 => he a x F3 H3 ha hp ((g.tr g2).tr g3) (ra.at g3.ff)) fun v F3 H3 g3 r3 => q v F3 H3 (g2.tr g3) r3
  obtain ⟨d, hd, rd⟩ := ra.back y.2
  obtain ⟨z, hz2, rfl⟩ := get_map hd
  exact ⟨z, hz2, rd⟩
/-- over a text's signs -/
theorem ed_lcSF {z : Str} {f : Nat → PyData} {p : Nat → Bool} {tt : TT} {j : Nat} {vs : List Nat} (h : ED K te σ F H (.str z)) (hz : z.cps.size ≤ 50000) (hw : ∀ x, wipe ((wipe σ vs).set j (some x)) vs = wipe σ vs)
    (ht : ∀ c F1 H1, c ∈ z.cps.toList → Bx F H F1 H1 → EB tt ((wipe σ vs).set j (some (.str ⟨#[c]⟩))) F1 H1 (p c))
    (he : ∀ c F1 H1, c ∈ z.cps.toList → p c = true → Bx F H F1 H1 → ED K ta ((wipe σ vs).set j (some (.str ⟨#[c]⟩))) F1 H1 (f c)) : ED K (tLc (iStr te) (gName j) tt ta vs) σ F H (.list ((z.cps.toList.filter p).map f)) := fun F1 H1 g Q q => by
  refine h F1 H1 g _ fun v F2 H2 g2 r => ?_
  refine ⟨z, r.asStr, fun Dl nD => ?_⟩
  have hl : z.cps.size = z.cps.toList.length := by simp
  refine lc_pure (xs := z.cps.toList) (rel := fun c x => x = .str ⟨#[c]⟩) (w := hl ▸ walk_str (z := z)) (fun i H x H' y => ⟨y.1, ?_⟩) g2.fh nD (fun F3 H3 g3 => trivial) (by rw [← hl]; exact hz) hw (fun c x F3 H3 ha ra g3 => by subst ra; exact ht c F3 H3 ha ((g.tr g2).tr g3)) (fun c x F3 H3 ha hp ra g3 => by subst ra; exact he c F3 H3 ha hp ((g.tr g2).tr g3)) fun v F3 H3 g3 r3 => q v F3 H3 (g2.tr g3) r3
  obtain ⟨c, hc, e⟩ := y.2
  exact ⟨c, by rw [Array.getElem?_toList]; exact hc, e⟩
/-- over range(n) -/
theorem ed_lcRF {n : Nat} {f : Nat → PyData} {p : Nat → Bool} {tt : TT} {j : Nat} {vs : List Nat} (h : ED K te σ F H (.int n)) (hz : n ≤ 50000) (hw : ∀ x, wipe ((wipe σ vs).set j (some x)) vs = wipe σ vs)
    (ht : ∀ c F1 H1, c < n → Bx F H F1 H1 → EB tt ((wipe σ vs).set j (some (.int (c : Nat)))) F1 H1 (p c))
    (he : ∀ c F1 H1, c < n → p c = true → Bx F H F1 H1 → ED K ta ((wipe σ vs).set j (some (.int (c : Nat)))) F1 H1 (f c)) : ED K (tLc (iRng1 (tCons te tNil)) (gName j) tt ta vs) σ F H (.list (((List.range n).filter p).map f)) := fun F1 H1 g Q q => by
  refine h F1 H1 g _ fun v F2 H2 g2 r => ?_
  refine ⟨n, by rw [r.asInt], by omega, by omega, fun Dl nD => ?_⟩
  have w : Walk (Itr 0 ((n : Int).toNat)) (List.range n).length (fun _ => True) (fun i H x H' => i < n ∧ H' = H ∧ x = .int (i : Nat)) := by
    rw [Int.toNat_natCast, List.length_range]
    exact ⟨fun _ _ hi _ => hi, fun _ _ => Nat.le_refl _, fun i H x H' hi _ y => ⟨hi, y.1, by rw [y.2, Int.zero_add]⟩⟩
  refine lc_pure (xs := List.range n) (rel := fun c x => x = .int (c : Nat)) w (fun i H x H' y => ⟨y.2.1, i, List.getElem?_range y.1, y.2.2⟩) g2.fh nD (fun F3 H3 g3 => trivial) (by simp; exact hz) hw (fun c x F3 H3 ha ra g3 => by subst ra; exact ht c F3 H3 (List.mem_range.mp ha) ((g.tr g2).tr g3)) (fun c x F3 H3 ha hp ra g3 => by subst ra; exact he c F3 H3 (List.mem_range.mp ha) hp ((g.tr g2).tr g3)) fun v F3 H3 g3 r3 => q v F3 H3 (g2.tr g3) r3
theorem ev_yes : EB tYes σ F H true := fun F1 H1 g Q q => q F1 H1 (.refl g.fh)
/-! ### a state of two ints at s -/
structure Sg (s : Addr) (F H : Hp) : Prop where
  fh : Same F H
  fs : F s = none
  st : ∃ a b : Int, H s = some (.lst [.int a, .int b])
variable {s : Addr}
theorem Sg.to (g : Sg s F H) (k : Gr [] F H F1 H1) : Sg s F1 H1 := by
  obtain ⟨a, b, e⟩ := g.st
  exact ⟨k.fh, k.still g.fs e, a, b, k.hh _ _ (fun z => nomatch z) e⟩
theorem Gr.w (k : Gr [] F H F1 H1) : Gr [s] F H F1 H1 := k.widen fun _ z => nomatch z
/-- what draws: the value is a number below m -/
def spDraw : Sp := fun vs H Q _ => ∃ (s : Addr) (m : Nat) (F : Hp), vs = [.ref s, .int m] ∧ Sg s F H ∧ 1 ≤ m ∧ m ≤ 1000 ∧ ∀ (r : Nat) H1, r < m → Gr [s] F H F H1 → Sg s F H1 → Q (.int r) H1
/-- evaluates, the state turning, to data of which A is so -/
def EM (K : PySem.W.Frag) (s : Addr) (te : TE) (σ : L2.St) (F : Hp) (A : PyData → Prop) : Prop := ∀ F1 H1, Same F F1 → Sg s F1 H1 → ∀ Q : VK, (∀ v d F2 H2, Gr [s] F1 H1 F2 H2 → Sg s F2 H2 → A d → R K F2 v d → Q v H2) → te σ H1 Q
variable {A B : PyData → Prop}
theorem EM.go (h : EM K s te σ F A) (g : Sg s F H) {Q : VK} (q : ∀ v d F2 H2, Gr [s] F H F2 H2 → Sg s F2 H2 → A d → R K F2 v d → Q v H2) : te σ H Q := h F H (Same.refl F) g Q q
theorem EM.up (h : EM K s te σ F A) (g : Same F F1) : EM K s te σ F1 A := fun F2 H2 k => h F2 H2 (g.trans k)
theorem em_of (h : ED K te σ F H d) (a : A d) : EM K s te σ F A := fun F1 H1 g k Q q => h F1 H1 ⟨g, k.fh⟩ Q fun v F2 H2 g2 r => q v d F2 H2 g2.w (k.to g2) a r
theorem EM.weak (h : EM K s te σ F A) (w : ∀ d, A d → B d) : EM K s te σ F B := fun F1 H1 g k Q q => h F1 H1 g k Q fun v d F2 H2 g2 k2 a r => q v d F2 H2 g2 k2 (w d a) r
theorem em_draw {i : Nat} {m : Nat} (hi : σ[i]? = some (some (.ref s))) (h : ED K te σ F H (.int m)) (h1 : 1 ≤ m) (h2 : m ≤ 1000) : EM K s (tCall spDraw [] E0 (tCons (tVar i) (tCons te tNil))) σ F (fun d => ∃ r : Nat, d = .int r ∧ r < m) := fun F1 H1 g k Q q =>
  ⟨.ref s, hi, h F1 H1 ⟨g, k.fh⟩ _ fun v F2 H2 g2 r => by
    refine ⟨s, m, F2, by rw [r.asInt]; rfl, k.to g2, h1, h2, fun r H3 hr g3 k3 => ?_⟩
    exact q (.int r) (.int r) F2 H3 ((Gr.w g2).trM g3) k3 ⟨r, rfl, hr⟩ (.int r)⟩
/-- two things, the state turning, then a rule -/
theorem em_op {r : R2} (ha : EM K s ta σ F A) (hb : ∀ F1, Same F F1 → EM K s tb σ F1 B) {C : PyData → Prop} (hr : ∀ d e, A d → B e → ∃ f, C f ∧ ∀ F1 H1, RR K r F1 H1 d e f) : EM K s (tOp r ta tb) σ F C := fun F1 H1 g k Q q =>
  ha F1 H1 g k _ fun v d F2 H2 g2 k2 a r1 => hb F2 (g.trans g2.ff) F2 H2 (Same.refl F2) k2 _ fun u e F3 H3 g3 k3 b r2 => by
    obtain ⟨f, cf, rr⟩ := hr d e a b
    exact rr F3 H3 F3 H3 (.refl k3.fh) v u (r1.at g3.ff) r2 Q fun z F4 H4 g4 r4 => q z f F4 H4 ((g2.trM g3).trM g4.w) (k3.to g4) cf r4
/-! ### statements -/
theorem qm_set {i : Nat} (h : EM K s te σ F A) (g : Sg s F H) (k : ∀ v d F1 H1, Gr [s] F H F1 H1 → Sg s F1 H1 → A d → R K F1 v d → tz D (σ.set i (some v)) H1) : tSeq (tAsg te (gName i)) tz D σ H := h.go g k
theorem qm_ret (h : EM K s te σ F A) (g : Sg s F H) (k : ∀ v d F1 H1, Gr [s] F H F1 H1 → Sg s F1 H1 → A d → R K F1 v d → D.rt v H1) : tRet te D σ H := h.go g k
theorem rr_ixS {z : Str} {i : Nat} {c : Nat} (h : z.cps.toList[i]? = some c) (hz : z.length ≤ 100000) : RR K rIxS F H (.str z) (.int i) (.str ⟨#[c]⟩) := fun F1 H1 g x y r1 r2 Q q => by
  cases r1.asStr
  cases r2.asInt
  exact ⟨z, i, c, rfl, rfl, Nat.le_trans hz (by decide), atI_nat h, q _ F1 H1 (.refl g.fh) (.str _)⟩
theorem rr_addS {x y : Str} (hz : x.length + y.length ≤ 100000) : RR K rAddS F H (.str x) (.str y) (.str (x ++ y)) := fun F1 H1 g u v r1 r2 Q q => by
  cases r1.asStr
  cases r2.asStr
  exact ⟨x, y, rfl, rfl, Nat.le_trans hz (by decide), q _ F1 H1 (.refl g.fh) (.str _)⟩
theorem rr_add {i j : Int} : RR K (rI0 fun i j => .int (i + j)) F H (.int i) (.int j) (.int (i + j)) := rr_I0 (gg := fun i j => i + j)
theorem rr_sub {i j : Int} : RR K (rI0 fun i j => .int (i - j)) F H (.int i) (.int j) (.int (i - j)) := rr_I0 (gg := fun i j => i - j)
theorem rr_I {C : Int → Int → Prop} {gg : Int → Int → Int} {i j : Int} (h : C i j) : RR K (rI C fun i j => .int (gg i j)) F H (.int i) (.int j) (.int (gg i j)) := fun F1 H1 g u v r1 r2 Q q => by
  cases r1.asInt
  cases r2.asInt
  exact ⟨i, j, rfl, rfl, h, q _ F1 H1 (.refl g.fh) (.int _)⟩
theorem rr_B {p : Int → Int → Bool} {i j : Int} : RR K (rI0 fun i j => .bl (p i j)) F H (.int i) (.int j) (.bool (p i j)) := fun F1 H1 g u v r1 r2 Q q => by
  cases r1.asInt
  cases r2.asInt
  exact ⟨i, j, rfl, rfl, q _ F1 H1 (.refl g.fh) (.bl _)⟩
theorem rr_eqI {i j : Int} : RR K rEq F H (.int i) (.int j) (.bool (decide (i = j))) := fun F1 H1 g u v r1 r2 Q q => by
  cases r1.asInt
  cases r2.asInt
  refine ⟨rfl, ?_⟩
  rw [show decide (V.int i = V.int j) = decide (i = j) by simp]
  exact q _ F1 H1 (.refl g.fh) (.bl _)
/-- for x in range(n), n drawn -/
theorem qm_forR {j : Nat} {tb : TS} (h : EM K s te σ F A) (g : Sg s F H) (k : ∀ d F1 H1, Gr [s] F H F1 H1 → Sg s F1 H1 → A d → ∃ n : Nat, d = .int n ∧ n ≤ 100000 ∧ ∃ Pv : Nat → L2.St → Hp → Prop, Pv 0 σ H1 ∧
      (∀ (i : Nat) σ2 H2, i < n → Pv i σ2 H2 → tb { D with nx := Pv (i + 1), ct := Pv (i + 1), bk := tz D } (σ2.set j (some (.int (i : Nat)))) H2) ∧ ∀ σ2 H2, Pv n σ2 H2 → tz D σ2 H2) : tSeq (tFor (iRng1 (tCons te tNil)) (gName j) tb) tz D σ H := by
  refine h.go g fun v d F1 H1 g1 k1 a r => ?_
  obtain ⟨n, rfl, hn, Pv, p0, ps, pd⟩ := k d F1 H1 g1 k1 a
  refine ⟨n, by rw [r.asInt], by omega, by omega, ?_⟩
  rw [Int.toNat_natCast]
  refine for_range (lo := 0) (n := n) (D := { D with nx := tz D }) Pv p0 (fun i σ2 H2 hi p => ?_) pd
  rw [Int.zero_add]
  exact ps i σ2 H2 hi p
/-- the last statement of a block: for x in range(n) -/
theorem sm_forR {j : Nat} {tb : TS} (h : EM K s te σ F A) (g : Sg s F H) (k : ∀ d F1 H1, Gr [s] F H F1 H1 → Sg s F1 H1 → A d → ∃ n : Nat, d = .int n ∧ n ≤ 100000 ∧ ∃ Pv : Nat → L2.St → Hp → Prop, Pv 0 σ H1 ∧
      (∀ (i : Nat) σ2 H2, i < n → Pv i σ2 H2 → tb { D with nx := Pv (i + 1), ct := Pv (i + 1), bk := D.nx } (σ2.set j (some (.int (i : Nat)))) H2) ∧ ∀ σ2 H2, Pv n σ2 H2 → D.nx σ2 H2) : tFor (iRng1 (tCons te tNil)) (gName j) tb D σ H := by
  refine h.go g fun v d F1 H1 g1 k1 a r => ?_
  obtain ⟨n, rfl, hn, Pv, p0, ps, pd⟩ := k d F1 H1 g1 k1 a
  refine ⟨n, by rw [r.asInt], by omega, by omega, ?_⟩
  rw [Int.toNat_natCast]
  refine for_range (lo := 0) (n := n) (D := D) Pv p0 (fun i σ2 H2 hi p => ?_) pd
  rw [Int.zero_add]
  exact ps i σ2 H2 hi p
/-! ### lists that may change -/
def Li (K : PySem.W.Frag) (F H : Hp) (p : Addr) (es : List PyData) : Prop := ∃ acc, H p = some (.lst acc) ∧ F p = none ∧ RA K F acc es
variable {M : List Addr} {p : Addr}
theorem Li.more (l : Li K F H p es) (g : Gr M F H F1 H1) (h : p ∉ M) : Li K F1 H1 p es := by
  obtain ⟨acc, h1, h2, ra⟩ := l
  exact ⟨acc, g.hh _ _ h h1, g.still h2 h1, ra.at g.ff⟩
theorem Li.still (l : Li K F H p es) {F0 H0 : Hp} (g : Gr M F0 H0 F H) (h0 : H0 p = none) : ∃ F2, Gr M F0 H0 F2 H ∧ Same F F2 ∧ R K F2 (.ref p) (.list es) ∧ (∀ b, b ≠ p → F b = none → F2 b = none) := by
  obtain ⟨acc, h1, h2, ra⟩ := l
  have s : Same F (upd F p (.lst acc)) := fun b u e => by rw [upd_ne (ne_some h2 e)]; exact e
  exact ⟨_, g.freeze h1 h2 h0, s, .lst upd_same (ra.at s), fun b hb e => by rw [upd_ne hb]; exact e⟩
theorem Own.li {F0 H0 : Hp} (o : Own K F0 H0 F H p es) : Li K F H p es := o.ex
/-- p.append(e), e of a turning state -/
theorem app_em {i : Nat} (l : Li K F H p es) (hi : σ[i]? = some (some (.ref p))) (h : EM K s te σ F A) (g : Sg s F H) (ne : p ≠ s) (hz : es.length < 100000) {D : Ends}
    (k : ∀ d F1 H1, Gr [s, p] F H F1 H1 → Sg s F1 H1 → A d → Li K F1 H1 p (es ++ [d]) → (∃ H2 acc, Gr [s] F H F1 H2 ∧ H1 = upd H2 p (.lst acc)) → D.nx σ H1) : tDrop (tBM K "list" rAppend (tVar i) (tCons te tNil)) D σ H := by
  obtain ⟨acc, h1, h2, ra⟩ := l
  refine ⟨.ref p, hi, .inl ⟨rfl, _, .inl (.inl h1)⟩, ?_⟩
  refine h.go g fun v d F1 H1 g1 k1 a r => ?_
  have hp : p ∉ [s] := fun z => ne (List.mem_singleton.mp z)
  have e1 := g1.hh _ _ hp h1
  have e2 := g1.still h2 h1
  refine ⟨p, acc, v, rfl, rfl, e1, ?_, ?_⟩
  · rw [ra.len]; exact Nat.lt_of_lt_of_le hz (by decide)
  · have gw : Gr [s, p] F H F1 H1 := g1.widen fun b hb => List.mem_cons.mpr (.inl (List.mem_singleton.mp hb))
    have g2 : Gr [s, p] F H F1 (upd H1 p (.lst (acc ++ [v]))) := gw.put e2 (.inl (List.mem_cons_of_mem _ List.mem_cons_self))
    obtain ⟨x, y, es⟩ := k1.st
    refine k d F1 _ g2 ⟨g2.fh, k1.fs, x, y, ?_⟩ a ⟨acc ++ [v], upd_same, e2, (ra.at g1.ff).app (.cons r .nil)⟩ ⟨H1, acc ++ [v], g1, rfl⟩
    rw [upd_ne (Ne.symm ne)]
    exact es
end
end Ly
namespace Wk
open PySem PySem.Spec PyProof.Rows L2 Ly Tm
abbrev sDr : Stmt := topS 11
theorem scDr : FnScope ["_law_state_here", "_law_many", "_law_drawn"] ["_law_state_here", "_law_many"] (defScope sDr) := ⟨rfl, rfl, rfl, by decide +kernel, rfl, by decide +kernel, by decide +kernel⟩
def tDr (K : PySem.W.Frag) : TS :=
  (tSeq (tIfS (tTest (tOp (rI0 fun i j => .bl (decide (j < i))) (tOp (rIxL K) (tVar 0) (tC (.int 1))) (tC (.int 0)))) (tSeq (tAsg (tOp (rI (fun _ j => 0 < j) fun i j => .int (i % j)) (tOp (rIxL K) (tVar 0) (tC (.int 1))) (tVar 1)) (gName 2))
  (tSeq (tAsg (tOp (rI CDiv fun i j => .int (i / j)) (tOp (rIxL K) (tVar 0) (tC (.int 1))) (tVar 1)) (gSub (tVar 0) (tC (.int 1)) rSetL))
  (tRet (tVar 2)))) tNext)
  (tSeq (tAsg (tOp (rI (fun _ j => 0 < j) fun i j => .int (i % j)) (tOp (rI0 fun i j => .int (i + j)) (tOp (rI CMul fun i j => .int (i * j)) (tOp (rIxL K) (tVar 0) (tC (.int 0))) (tC (.int 48271))) (tC (.int 8191))) (tC (.int 2147483647))) (gSub (tVar 0) (tC (.int 0)) rSetL))
  (tRet (tOp (rI (fun _ j => 0 < j) fun i j => .int (i % j)) (tOp (rI CDiv fun i j => .int (i / j)) (tOp (rIxL K) (tVar 0) (tC (.int 0))) (tC (.int 16))) (tVar 1)))))
section
variable {P : Program} {w : World} {K : PySem.W.Frag} {mg : Str → Option Value} {base : Heap}
theorem pure_Dr (vs : List V) (H : Hp) (Q : VK) (E : XK) (h : spDraw vs H Q E) : tDr K { nx := fun _ H' => Q .non H', rt := Q } (start ["_law_state_here", "_law_many", "_law_drawn"] vs) H := by
  obtain ⟨s, m, F, rfl, g, h1, h2, q⟩ := h
  obtain ⟨a, b, e⟩ := g.st
  have hm : (0 : Int) < (m : Int) := by omega
  have hd : ∀ x : Int, CDiv x (m : Int) := fun x => ⟨by omega, by omega⟩
  have done : ∀ (x : Int) (H1 : Hp), (∃ a b : Int, H1 = upd H s (.lst [.int a, .int b])) → Q (.int (x % (m : Int))) H1 := fun x H1 ⟨a1, b1, e1⟩ => by
    have hx : 0 ≤ x % (m : Int) := Int.emod_nonneg x (by omega)
    have hy : x % (m : Int) < m := Int.emod_lt_of_pos x hm
    have z : x % (m : Int) = ((x % (m : Int)).toNat : Int) := by omega
    rw [z]
    subst e1
    have gr : Gr [s] F H F (upd H s (.lst [.int a1, .int b1])) := (Gr.refl g.fh).put g.fs (.inl List.mem_cons_self)
    exact q _ _ (by omega) gr ⟨gr.fh, g.fs, a1, b1, upd_same⟩
  refine ⟨.ref s, rfl, s, _, 1, .int b, rfl, rfl, .inl (.inl e), rfl, b, 0, rfl, rfl, _, rfl, ite2 (fun c => ?_) (fun c => ?_)⟩
  · refine ⟨.ref s, rfl, s, _, 1, .int b, rfl, rfl, .inl (.inl e), rfl, _, rfl, b, m, rfl, rfl, hm, ?_⟩
    refine ⟨.ref s, rfl, s, _, 1, .int b, rfl, rfl, .inl (.inl e), rfl, _, rfl, b, m, rfl, rfl, hd b, ?_⟩
    refine ⟨.ref s, rfl, s, _, 1, 1, rfl, rfl, e, rfl, ?_⟩
    exact ⟨_, rfl, done b _ ⟨_, _, rfl⟩⟩
  · refine ⟨.ref s, rfl, s, _, 0, .int a, rfl, rfl, .inl (.inl e), rfl, a, 48271, rfl, rfl, .inr ⟨by decide, by decide⟩, _, 8191, rfl, rfl, _, 2147483647, rfl, rfl, (by show (0 : Int) < 2147483647; decide), ?_⟩
    refine ⟨.ref s, rfl, s, _, 0, 0, rfl, rfl, e, rfl, ?_⟩
    refine ⟨.ref s, rfl, s, _, 0, _, rfl, rfl, .inl (.inl upd_same), rfl, _, 16, rfl, rfl, ⟨by decide, by decide⟩, _, rfl, _, m, rfl, rfl, hm, ?_⟩
    exact done _ _ ⟨_, _, rfl⟩
theorem ok_Dr {f : Addr} {fd : FuncData} {k : Nat} (D : Df K mg "_law_draw" sDr ["_law_state_here", "_law_many"] f fd) : FnOk P w K mg base CX0 (k + 1) f fd ["_law_state_here", "_law_many"] spDraw := by
  refine D.F.ok scDr (fun vs H Q E h => ?_) (fun cdv A outer s H vs Q E hr h => ⟨tDr K, ?_, pure_Dr vs H Q E h⟩)
  · obtain ⟨s, m, F, rfl, _⟩ := h
    rfl
  · exact (pss_cons (ps_if (pt_cmpR op_gt (pe_ix ix_list (pv 0) pe_int (fun _ _ => rfl)) pe_int (nomark _)) (pss_cons (ps_set (i := 2) scDr.nd rfl (Or.inl rfl) (pe_op op_mod (pe_ix ix_list (pv 0) pe_int (fun _ _ => rfl)) (pv 1)))
    (pss_cons (ps_asg (pe_op op_fdiv (pe_ix ix_list (pv 0) pe_int (fun _ _ => rfl)) (pv 1)) (pg_sub (pv 0) pe_int set_list))
    (pss_one (ps_ret (pv 2))))) pss_nil)
    (pss_cons (ps_asg (pe_op op_mod (pe_op op_add (pe_op op_mul (pe_ix ix_list (pv 0) pe_int (fun _ _ => rfl)) pe_int) pe_int) pe_int) (pg_sub (pv 0) pe_int set_list))
    (pss_one (ps_ret (pe_op op_mod (pe_op op_fdiv (pe_ix ix_list (pv 0) pe_int (fun _ _ => rfl)) pe_int) (pv 1))))))
end
abbrev sSa : Stmt := topS 10
theorem scSa : FnScope ["_law_cell"] ["_law_cell"] (defScope sSa) := ⟨rfl, rfl, rfl, by decide +kernel, rfl, by decide +kernel, by decide +kernel⟩
def tSa (K : PySem.W.Frag) : TS :=
  (tRet (tLst (tCons (tOp (rI (fun _ j => 0 < j) fun i j => .int (i % j)) (tVar 0) (tC (.int 2147483647))) (tCons (tCB rMax2 (tCons (tC (.int 0)) (tCons (tOp (rI0 fun i j => .int (i - j)) (tVar 0) (tOp (rI CPow fun i j => .int (i ^ j.toNat)) (tC (.int 10)) (tC (.int 18)))) tNil))) tNil))))
/-- a new state -/
def spState : Sp := fun vs H Q _ => ∃ (c : Int) (F : Hp), vs = [.int c] ∧ Same F H ∧ ∀ s H1, H s = none → Gr [] F H F H1 → Sg s F H1 → Q (.ref s) H1
section
variable {P : Program} {w : World} {K : PySem.W.Frag} {mg : Str → Option Value} {base : Heap}
theorem pure_Sa (vs : List V) (H : Hp) (Q : VK) (E : XK) (h : spState vs H Q E) : tSa K { nx := fun _ H' => Q .non H', rt := Q } (start ["_law_cell"] vs) H := by
  obtain ⟨c, F, rfl, s, q⟩ := h
  refine ⟨.int c, rfl, c, 2147483647, rfl, rfl, (by show (0 : Int) < 2147483647; decide), ?_⟩
  refine ⟨.int c, rfl, 10, 18, rfl, rfl, ⟨by decide, by decide, by decide⟩, c, _, rfl, rfl, 0, _, rfl, by show 2 ≤ sizeLine; decide, fun p np => ?_⟩
  exact q p _ np ((Gr.refl s).newM np) ⟨((Gr.refl (M := []) s).newM np).fh, same_none s np, _, _, upd_same⟩
theorem ok_Sa {f : Addr} {fd : FuncData} {k : Nat} (D : Df K mg "_law_state" sSa ["_law_cell"] f fd) (m_max : mg "max" = none) : FnOk P w K mg base CX0 (k + 1) f fd ["_law_cell"] spState := by
  refine D.F.ok scSa (fun vs H Q E h => ?_) (fun cdv A outer s H vs Q E hr h => ⟨tSa K, ?_, pure_Sa vs H Q E h⟩)
  · obtain ⟨c, F, rfl, _⟩ := h
    rfl
  · exact (pss_one (ps_ret (pe_lst (pa_cons (pe_op op_mod (pv 0) pe_int) (pa_cons (pe_callB (call_max2 (by rfl)) (by rfl) m_max (by decide +kernel) (pa_cons pe_int (pa_cons (pe_op op_sub (pv 0) (pe_op op_pow pe_int pe_int)) pa_nil))) pa_nil)))))
end
abbrev sSe : Stmt := topS 9
theorem scSe : FnScope ["_law_script", "_law_k"] ["_law_script", "_law_k"] (defScope sSe) := ⟨rfl, rfl, rfl, by decide +kernel, rfl, by decide +kernel, by decide +kernel⟩
def tSe (K : PySem.W.Frag) : TS :=
  (tSeq (tIfS (tTest (tOp (rI0 fun i j => .bl (decide (i < j))) (tVar 1) (tCB (rLenOf K) (tCons (tVar 0) tNil)))) (tRet (tOp (rIxL K) (tVar 0) (tVar 1))) tNext)
  (tRet (tOp (rI0 fun i j => .int (i + j)) (tOp (rI CMul fun i j => .int (i * j)) (tC (.int 40503)) (tVar 1)) (tC (.int 11)))))
def spSeed (K : PySem.W.Frag) : Sp := fun vs H Q _ => ∃ (a : Addr) (ns : List Int), vs = [.ref a, .int 0] ∧ SqL K H a (ns.map V.int) ∧ ∀ c : Int, Q (.int c) H
section
variable {P : Program} {w : World} {K : PySem.W.Frag} {mg : Str → Option Value} {base : Heap}
theorem pure_Se (vs : List V) (H : Hp) (Q : VK) (E : XK) (h : spSeed K vs H Q E) : tSe K { nx := fun _ H' => Q .non H', rt := Q } (start ["_law_script", "_law_k"] vs) H := by
  obtain ⟨a, ns, rfl, hs, q⟩ := h
  refine ⟨.int 0, rfl, .ref a, rfl, a, _, rfl, .inl hs, 0, _, rfl, rfl, _, rfl, ite2 (fun c => ?_) (fun c => ?_)⟩
  · have c := of_decide_eq_true c
    cases ns with
    | nil => cases c
    | cons n ns => exact ⟨.ref a, rfl, .int 0, rfl, a, _, 0, .int n, rfl, rfl, hs, atI_nat (j := 0) rfl, q n⟩
  · exact ⟨.int 0, rfl, 40503, 0, rfl, rfl, .inl ⟨by decide, by decide⟩, _, 11, rfl, rfl, q _⟩
theorem ok_Se {f : Addr} {fd : FuncData} {k : Nat} (D : Df K mg "_law_seed" sSe ["_law_script", "_law_k"] f fd) (m_len : mg "len" = none) : FnOk P w K mg base CX0 (k + 1) f fd ["_law_script", "_law_k"] (spSeed K) := by
  refine D.F.ok scSe (fun vs H Q E h => ?_) (fun cdv A outer s H vs Q E hr h => ⟨tSe K, ?_, pure_Se vs H Q E h⟩)
  · obtain ⟨c, F, rfl, _⟩ := h
    rfl
  · exact (pss_cons (ps_if (pt_cmpR op_lt (pv 1) (pe_callB call_len_seq (by rfl) m_len (by decide +kernel) (pa_cons (pv 0) pa_nil)) (nomark _)) (pss_one (ps_ret (pe_ix ix_list (pv 0) (pv 1) (fun _ _ => rfl)))) pss_nil)
    (pss_one (ps_ret (pe_op op_add (pe_op op_mul pe_int (pv 1)) pe_int))))
end
end Wk
namespace Wk
open PySem PySem.Spec PyProof.Rows L2 Ly Tm
abbrev sWo : Stmt := topS 12
theorem scWo : FnScope ["_law_state_here", "_law_others", "_law_letters", "_law_barred", "_law_word_here", "_law_k", "_law_letter"] ["_law_state_here", "_law_others"] (defScope sWo) := ⟨rfl, rfl, rfl, by decide +kernel, rfl, by decide +kernel, by decide +kernel⟩
def tWo (K : PySem.W.Frag) : TS :=
  (tSeq (tAsg (tC (.str "abcdefghijklmnopqrstuvwxyz")) (gName 2))
  (tSeq (tAsg (tOp rCat (tVar 1) (tLst (tCons (tC (.str "no")) (tCons (tC (.str "not")) (tCons (tC (.str "and")) (tCons (tC (.str "or")) (tCons (tC (.str "so")) (tCons (tC (.str "all")) (tCons (tC (.str "some")) tNil))))))))) (gName 3))
  (tSeq (tAsg (tC (.str "")) (gName 4))
  (tSeq (tFor (iRng1 (tCons (tOp (rI0 fun i j => .int (i + j)) (tC (.int 1)) (tOp (rI CMul fun i j => .int (i * j)) (tCall spDraw [] E0 (tCons (tVar 0) (tCons (tC (.int 2)) tNil))) (tCall spDraw [] E0 (tCons (tVar 0) (tCons (tC (.int 8)) tNil))))) tNil)) (gName 5) (tAsg (tOp rAddS (tVar 4) (tOp rIxS (tVar 2) (tCall spDraw [] E0 (tCons (tVar 0) (tCons (tC (.int 26)) tNil))))) (gName 4)))
  (tSeq (tIfS (tTest (tOp (rIn K false) (tVar 4) (tVar 3))) (tAsg (tOp (rIxL K) (tLc (iStr (tVar 2)) (gName 6) (tTest (tOp (rIn K true) (tVar 6) (tVar 3))) (tVar 6) [6]) (tC (.int 0))) (gName 4)) tNext)
  (tRet (tVar 4)))))))
def abc : Str := "abcdefghijklmnopqrstuvwxyz"
def words7 : List Str := ["no", "not", "and", "or", "so", "all", "some"]
def spWord (K : PySem.W.Frag) : Sp := fun vs H Q _ => ∃ (s l : Addr) (F : Hp) (ts : List Str), vs = [.ref s, .ref l] ∧ Sg s F H ∧ Li K F H l (ts.map .str) ∧ l ≠ s ∧ ts.length ≤ 19 ∧ (∀ x ∈ ts, So x) ∧ ∀ w F1 H1, So w → Gr [s] F H F1 H1 → Sg s F1 H1 → Q (.str w) H1
theorem So.app {x y : Str} (h1 : So x) (h2 : So y) : So (x ++ y) := by
  unfold So PyData.strOk at *
  show (x.cps ++ y.cps).all _ = true
  rw [Array.all_append, h1, h2]
  rfl
theorem len_app (x y : Str) : (x ++ y).length = x.length + y.length := by
  show (x.cps ++ y.cps).size = x.cps.size + y.cps.size
  exact Array.size_append
theorem abc_codes : abc.cps.toList = (List.range 26).map (· + 97) := by decide +kernel
theorem abc_size : abc.cps.size = 26 := by decide +kernel
theorem So.sign {c : Nat} (h : c ∈ abc.cps.toList) : So ⟨#[c]⟩ := by
  rw [abc_codes] at h
  obtain ⟨j, hj, rfl⟩ := List.mem_map.mp h
  have := List.mem_range.mp hj
  show (#[j + 97].all fun c => decide (c < 0x110000)) = true
  simp
  omega
/-- a letter is left -/
theorem letter_left (ts : List Str) (h : ts.length < 26) : ∃ c ∈ abc.cps.toList, (⟨#[c]⟩ : Str) ∉ ts ++ words7 := by
  obtain ⟨j, hj, hn⟩ := L2.st_missing (ts.map fun x => (x.cps.getD 0 0) - 97) 26 (by rw [List.length_map]; exact h)
  refine ⟨j + 97, by rw [abc_codes]; exact List.mem_map.mpr ⟨j, List.mem_range.mpr hj, rfl⟩, fun z => ?_⟩
  rcases List.mem_append.mp z with z | z
  · exact hn (List.mem_map.mpr ⟨_, z, by simp⟩)
  · have : (words7.all fun w => decide (w.cps.size ≠ 1)) = true := by decide +kernel
    have q := of_decide_eq_true (List.all_eq_true.mp this _ z)
    exact q rfl
theorem any_strs (x : Str) : ∀ ts : List Str, ((ts.map PyData.str).any fun z => PyData.eqv z (.str x)) = decide (x ∈ ts)
  | [] => by simp
  | y :: ts => by
    rw [List.map_cons, List.any_cons, any_strs x ts]
    show (y == x || decide (x ∈ ts)) = _
    by_cases e : y = x
    · subst e; simp
    · have e2 : ¬ x = y := fun z => e z.symm
      simp [e, e2]
theorem flat_strs (ts : List Str) : (ts.map PyData.str).all flatD = true := by
  rw [List.all_map]
  exact List.all_eq_true.mpr fun _ _ => rfl
section
variable {P : Program} {w : World} {K : PySem.W.Frag} {mg : Str → Option Value} {base : Heap}
theorem pure_Wo (vs : List V) (H : Hp) (Q : VK) (E : XK) (h : spWord K vs H Q E) : tWo K { nx := fun _ H' => Q .non H', rt := Q } (start ["_law_state_here", "_law_others", "_law_letters", "_law_barred", "_law_word_here", "_law_k", "_law_letter"] vs) H := by
  obtain ⟨s, l, F, ts, rfl, g, li, ne, hl, so, q⟩ := h
  obtain ⟨acc, h1, h2, ra⟩ := li
  -- barred = others + [..]
  refine ⟨.ref l, rfl, ?_⟩
  refine own_display (K := K) (ds := words7.map .str) (.refl g.fh) (ea_cons ed_str (ea_cons ed_str (ea_cons ed_str (ea_cons ed_str (ea_cons ed_str (ea_cons ed_str (ea_cons ed_str ea_nil))))))) (by decide) fun b F1 H1 o1 s1 => ?_
  obtain ⟨ac1, k1, k2, rb⟩ := o1.ex
  refine ⟨l, b, acc, ac1, rfl, rfl, o1.gr.hh _ _ (fun z => nomatch z) h1, k1, ?_, fun p np => ?_⟩
  · rw [ra.len, rb.len, List.length_map, List.length_map]
    show ts.length + 7 ≤ sizeLine
    exact Nat.le_trans (show ts.length + 7 ≤ 100 by omega) (by decide)
  have g2 : Gr [] F H (upd F1 p (.lst (acc ++ ac1))) (upd H1 p (.lst (acc ++ ac1))) := o1.gr.new np
  have rB : R K (upd F1 p (.lst (acc ++ ac1))) (.ref p) (.list ((ts ++ words7).map .str)) := by
    refine .lst upd_same ?_
    rw [List.map_append]
    exact ((ra.at o1.gr.ff).app rb).at ((Gr.refl o1.gr.fh).new (M := []) np).ff
  generalize upd F1 p (.lst (acc ++ ac1)) = F2 at g2 rB
  generalize upd H1 p (.lst (acc ++ ac1)) = H2 at g2
  have k2 := g.to g2
  -- the loop
  have cnt : EM K s (tOp (rI0 fun i j => .int (i + j)) (tC (.int 1)) (tOp (rI CMul fun i j => .int (i * j)) (tCall spDraw [] E0 (tCons (tVar 0) (tCons (tC (.int 2)) tNil))) (tCall spDraw [] E0 (tCons (tVar 0) (tCons (tC (.int 8)) tNil))))) [some (.ref s), some (.ref l), some (.str abc), some (.ref p), some (.str ""), none, none] F2 (fun d => ∃ n : Nat, d = .int n ∧ n ≤ 8) := by
    refine em_op (em_of (H := H2) ed_int rfl (A := fun d => d = .int 1)) (fun F3 _ => em_op (B := fun d => ∃ r : Nat, d = .int r ∧ r < 8) (C := fun d => ∃ r : Nat, d = .int r ∧ r ≤ 7) (em_draw (m := 2) (H := H2) rfl ed_int (by decide) (by decide)) (fun F4 _ => em_draw (m := 8) (H := H2) rfl ed_int (by decide) (by decide)) ?_) ?_
    · rintro d e ⟨a, rfl, ha⟩ ⟨b, rfl, hb⟩
      refine ⟨_, ⟨a * b, rfl, ?_⟩, fun F5 H5 => ?_⟩
      · have := Nat.mul_le_mul (show a ≤ 1 by omega) (show b ≤ 7 by omega)
        omega
      · rw [Int.natCast_mul]
        exact rr_I (gg := fun i j => i * j) (.inl ⟨by omega, by omega⟩)
    · rintro d e rfl ⟨b, rfl, hb⟩
      refine ⟨_, ⟨1 + b, rfl, by omega⟩, fun F5 H5 => ?_⟩
      rw [Int.natCast_add]
      exact rr_add
  refine qm_forR cnt k2 fun d F3 H3 g3 k3 a3 => ?_
  obtain ⟨n, rfl, hn⟩ := a3
  refine ⟨n, rfl, by omega, fun i σ2 H4 => ∃ (w : Str) (F4 : Hp) (y : Option V), σ2 = [some (.ref s), some (.ref l), some (.str abc), some (.ref p), some (.str w), y, none] ∧ Gr [s] F2 H2 F4 H4 ∧ Sg s F4 H4 ∧ So w ∧ w.length ≤ i, ⟨"", F3, none, rfl, g3, k3, by decide +kernel, Nat.le_refl 0⟩, ?_, ?_⟩
  · rintro i σ2 H4 hi ⟨w, F4, y, rfl, g4, k4, sw, hw⟩
    have one : EM K s (tOp rIxS (tVar 2) (tCall spDraw [] E0 (tCons (tVar 0) (tCons (tC (.int 26)) tNil)))) [some (.ref s), some (.ref l), some (.str abc), some (.ref p), some (.str w), some (.int (i : Nat)), none] F4 (fun d => ∃ c ∈ abc.cps.toList, d = .str ⟨#[c]⟩) := by
      refine em_op (em_of (H := H4) (ed_var rfl (.str abc)) rfl (A := fun d => d = .str abc)) (fun F5 _ => em_draw (m := 26) (H := H4) rfl ed_int (by decide) (by decide)) ?_
      rintro d e rfl ⟨r, rfl, hr⟩
      have hr2 : r < abc.cps.toList.length := by rw [abc_codes]; simpa using hr
      exact ⟨_, ⟨_, List.getElem_mem hr2, rfl⟩, fun F5 H5 => rr_ixS (List.getElem?_eq_getElem hr2) (by decide +kernel)⟩
    have both : EM K s (tOp rAddS (tVar 4) (tOp rIxS (tVar 2) (tCall spDraw [] E0 (tCons (tVar 0) (tCons (tC (.int 26)) tNil))))) [some (.ref s), some (.ref l), some (.str abc), some (.ref p), some (.str w), some (.int (i : Nat)), none] F4 (fun d => ∃ u : Str, d = .str u ∧ So u ∧ u.length ≤ i + 1) := by
      refine em_op (em_of (H := H4) (ed_var rfl (.str w)) rfl (A := fun d => d = .str w)) (fun F5 s5 => one.up s5) ?_
      rintro d e rfl ⟨c, hc, rfl⟩
      refine ⟨_, ⟨w ++ ⟨#[c]⟩, rfl, So.app sw (So.sign hc), ?_⟩, fun F5 H5 => rr_addS ?_⟩
      · rw [len_app]
        show w.length + 1 ≤ i + 1
        omega
      · show w.length + 1 ≤ 100000
        omega
    refine both.go k4 fun v d F5 H5 g5 k5 a5 r5 => ?_
    obtain ⟨u, rfl, su, hu⟩ := a5
    exact ⟨u, F5, _, by rw [r5.asStr]; rfl, g4.trM g5, k5, su, hu⟩
  · rintro σ2 H4 ⟨w, F4, y, rfl, g4, k4, sw, hw⟩
    have rB4 := rB.at g4.ff
    have gT : Gr [s] F H F4 H4 := (Gr.w g2).trM g4
    -- if word in barred
    refine q_when (eb_test (ed_op (ed_var rfl (.str w)) (ed_var rfl rB4) (rr_inL rfl (flat_strs _)))) k4.fh (fun e F5 H5 g5 => ?_) (fun e F5 H5 g5 => ?_)
    · obtain ⟨c, hc, hn⟩ := letter_left ts (by omega)
      have left : abc.cps.toList.filter (fun c => !((ts ++ words7).map PyData.str).any fun z => PyData.eqv z (.str ⟨#[c]⟩)) ≠ [] := fun z => by
        have m : c ∈ abc.cps.toList.filter (fun c => !((ts ++ words7).map PyData.str).any fun z => PyData.eqv z (.str ⟨#[c]⟩)) := List.mem_filter.mpr ⟨hc, by rw [any_strs, decide_eq_false hn]; rfl⟩
        rw [z] at m
        cases m
      obtain ⟨c0, r0, ec⟩ : ∃ c0 r0, abc.cps.toList.filter (fun c => !((ts ++ words7).map PyData.str).any fun z => PyData.eqv z (.str ⟨#[c]⟩)) = c0 :: r0 := by
        cases h : abc.cps.toList.filter (fun c => !((ts ++ words7).map PyData.str).any fun z => PyData.eqv z (.str ⟨#[c]⟩)) with
        | nil => exact absurd h left
        | cons x r => exact ⟨x, r, rfl⟩
      have hc0 : c0 ∈ abc.cps.toList := (List.mem_filter.mp (by rw [ec]; exact List.mem_cons_self)).1
      refine (ed_op (ed_lcSF (z := abc) (f := fun c => .str ⟨#[c]⟩) (p := fun c => !((ts ++ words7).map PyData.str).any fun z => PyData.eqv z (.str ⟨#[c]⟩)) (ed_var rfl (.str abc)) (by rw [abc_size]; decide) (fun _ => rfl) (fun c F6 H6 _ g6 => eb_test (ed_op (ed_var rfl (.str _)) (ed_var rfl ((rB4.at g5.ff).at g6.ff)) (rr_notInL rfl (flat_strs _)))) (fun c F6 H6 _ _ g6 => ed_var rfl (.str _))) ed_int (rr_ixL (d := .str ⟨#[c0]⟩) (by rw [ec]; exact atI_nat (j := 0) rfl))).go g5.fh fun v F6 H6 g6 r6 => ?_
      refine ⟨v, rfl, ?_⟩
      rw [r6.asStr]
      exact q _ F6 H6 (So.sign hc0) ((gT.trM g5.w).trM g6.w) ((k4.to g5).to g6)
    · exact ⟨.str w, rfl, q w F5 H5 sw (gT.trM g5.w) (k4.to g5)⟩
theorem ok_Wo {f fD : Addr} {fd fdD : FuncData} {k : Nat} (D : Df K mg "_law_word" sWo ["_law_state_here", "_law_others"] f fd) (DD : Df K mg "_law_draw" sDr ["_law_state_here", "_law_many"] fD fdD) (GD : FnOk P w K mg base CX0 1 fD fdD ["_law_state_here", "_law_many"] spDraw) (m_range : mg "range" = none) : FnOk P w K mg base CX0 (k + 2) f fd ["_law_state_here", "_law_others"] (spWord K) := by
  refine D.F.ok scWo (fun vs H Q E h => ?_) (fun cdv A outer s H vs Q E hr h => ⟨tWo K, ?_, pure_Wo vs H Q E h⟩)
  · obtain ⟨s, l, F, ts, rfl, _⟩ := h
    rfl
  · exact (pss_cons (ps_set (i := 2) scWo.nd rfl (Or.inl rfl) pe_str)
    (pss_cons (ps_set (i := 3) scWo.nd rfl (Or.inr rfl) (pe_op op_cat (pv 1) (pe_lst (pa_cons pe_str (pa_cons pe_str (pa_cons pe_str (pa_cons pe_str (pa_cons pe_str (pa_cons pe_str (pa_cons pe_str pa_nil))))))))))
    (pss_cons (ps_set (i := 4) scWo.nd rfl (Or.inl rfl) pe_str)
    (pss_cons (ps_for PassesOwn.never (by rfl) (pi_range1 (by rfl) m_range (pa_cons (pe_op op_add pe_int (pe_op op_mul (pe_call GD (hr.mono (by omega)) (by rfl) DD.g DD.F.kp DD.b .nil pass0 (pa_cons (pv 0) (pa_cons pe_int pa_nil))) (pe_call GD (hr.mono (by omega)) (by rfl) DD.g DD.F.kp DD.b .nil pass0 (pa_cons (pv 0) (pa_cons pe_int pa_nil))))) pa_nil)) (pg_name (i := 5) scWo.nd rfl (Or.inl rfl)) (pss_one (ps_set (i := 4) scWo.nd rfl (Or.inl rfl) (pe_op op_add_str (pv 4) (pe_ix ix_str (pv 2) (pe_call GD (hr.mono (by omega)) (by rfl) DD.g DD.F.kp DD.b .nil pass0 (pa_cons (pv 0) (pa_cons pe_int pa_nil))) (fun _ _ => rfl))))))
    (pss_cons (ps_if (pt_cmpR op_in_seq (pv 4) (pv 3) (by rfl)) (pss_one (ps_set (i := 4) scWo.nd rfl (Or.inl rfl) (pe_ix ix_list (pe_lc (own := [("_law_letter", 6)]) (g := (gName 6)) (tt := (tTest (tOp (rIn K true) (tVar 6) (tVar 3)))) (by rfl) scWo.nd (pi_str (pv 2)) (blkOk_by (own := [("_law_letter", 6)]) (N := ["_law_state_here", "_law_others", "_law_letters", "_law_barred", "_law_word_here", "_law_k", "_law_letter"]) (sc := defScope sWo) (by decide +kernel)) (fun _ _ _ _ _ => (pg_name (i := 6) scWo.nd rfl (Or.inl rfl))) (fun _ _ _ _ _ => (pts_one (pt_cmpR op_notIn_seq (pv 6) (pv 3) (by rfl)))) (fun _ _ _ _ _ => (pv 6))) pe_int (fun _ _ => rfl)))) pss_nil)
    (pss_one (ps_ret (pv 4))))))))
end
end Wk
/-! what the drawing of a ground keeps: the state, the taken words, lists of one's own. -/
namespace Wk
open PySem PySem.Spec PyProof.Rows L2 Ly Tm
structure Bs (K : PySem.W.Frag) (s l : Addr) (F0 H0 F H : Hp) (ts : List Str) : Prop where
  gr : Gr [s, l] F0 H0 F H
  sg : Sg s F H
  li : Li K F H l (ts.map .str)
  ne : l ≠ s
  so : ∀ x ∈ ts, So x
structure Ol (K : PySem.W.Frag) (s l : Addr) (H0 F H : Hp) (p : Addr) (es : List PyData) : Prop where
  li : Li K F H p es
  ns : p ≠ s
  nl : p ≠ l
  h0 : H0 p = none
section
variable {K : PySem.W.Frag} {s l p q : Addr} {F0 H0 F H F1 H1 : Hp} {ts : List Str} {es fs : List PyData} {σ : L2.St} {te : TE} {A : PyData → Prop} {D : Ends} {tz : TS}
theorem Bs.pure (b : Bs K s l F0 H0 F H ts) (g : Gr [] F H F1 H1) : Bs K s l F0 H0 F1 H1 ts := ⟨b.gr.tr g, b.sg.to g, b.li.more g fun z => (nomatch z), b.ne, b.so⟩
theorem Bs.st (b : Bs K s l F0 H0 F H ts) (g : Gr [s] F H F1 H1) (k : Sg s F1 H1) : Bs K s l F0 H0 F1 H1 ts :=
  ⟨b.gr.trans g fun x hx => .inl (by rw [List.mem_singleton.mp hx]; exact List.mem_cons_self), k, b.li.more g fun z => b.ne (List.mem_singleton.mp z), b.ne, b.so⟩
theorem Ol.pure (o : Ol K s l H0 F H p es) (g : Gr [] F H F1 H1) : Ol K s l H0 F1 H1 p es := ⟨o.li.more g fun z => (nomatch z), o.ns, o.nl, o.h0⟩
theorem Ol.st (o : Ol K s l H0 F H p es) (g : Gr [s] F H F1 H1) : Ol K s l H0 F1 H1 p es := ⟨o.li.more g fun z => o.ns (List.mem_singleton.mp z), o.ns, o.nl, o.h0⟩
/-- a new list -/
theorem Bs.new (b : Bs K s l F0 H0 F H ts) (np : H p = none) : Bs K s l F0 H0 F (upd H p (.lst [])) ts ∧ Ol K s l H0 F (upd H p (.lst [])) p [] ∧ ∀ q es, Ol K s l H0 F H q es → Ol K s l H0 F (upd H p (.lst [])) q es ∧ q ≠ p := by
  have g : Gr [] F H F (upd H p (.lst [])) := (Gr.refl b.sg.fh).newM np
  obtain ⟨x, y, e⟩ := b.sg.st
  obtain ⟨acc, e2, _⟩ := b.li
  refine ⟨b.pure g, ⟨⟨[], upd_same, same_none b.sg.fh np, .nil⟩, fun z => ?_, fun z => ?_, b.gr.dm p np⟩, fun q es o => ⟨o.pure g, fun z => ?_⟩⟩
  · rw [z, e] at np; cases np
  · rw [z, e2] at np; cases np
  · obtain ⟨acc, e3, _⟩ := o.li
    rw [z, np] at e3; cases e3
theorem q_new {i : Nat} (b : Bs K s l F0 H0 F H ts) (k : ∀ p H1, Bs K s l F0 H0 F H1 ts → Ol K s l H0 F H1 p [] → (∀ q es, Ol K s l H0 F H q es → Ol K s l H0 F H1 q es ∧ q ≠ p) → tz D (σ.set i (some (.ref p))) H1) : tSeq (tAsg (tLst tNil) (gName i)) tz D σ H :=
  ⟨Nat.zero_le _, fun p np => by
    obtain ⟨b1, o1, k1⟩ := b.new np
    exact k p _ b1 o1 k1⟩
/-- from now on p stands still -/
theorem Bs.freeze (b : Bs K s l F0 H0 F H ts) (o : Ol K s l H0 F H p es) : ∃ F2, Bs K s l F0 H0 F2 H ts ∧ Same F F2 ∧ R K F2 (.ref p) (.list es) ∧ ∀ q fs, q ≠ p → Ol K s l H0 F H q fs → Ol K s l H0 F2 H q fs := by
  obtain ⟨F2, g, sm, r, kp⟩ := o.li.still b.gr o.h0
  have up : ∀ q fs, q ≠ p → Li K F H q fs → Li K F2 H q fs := fun q fs hq ⟨acc, h1, h2, ra⟩ => ⟨acc, h1, kp q hq h2, ra.at sm⟩
  exact ⟨F2, ⟨g, ⟨g.fh, kp s (Ne.symm o.ns) b.sg.fs, b.sg.st⟩, up l _ (Ne.symm o.nl) b.li, b.ne, b.so⟩, sm, r, fun q fs hq oq => ⟨up q fs hq oq.li, oq.ns, oq.nl, oq.h0⟩⟩
/-- p.append(e), p one's own -/
theorem ol_app {i : Nat} (b : Bs K s l F0 H0 F H ts) (o : Ol K s l H0 F H p es) (hi : σ[i]? = some (some (.ref p))) (h : EM K s te σ F A) (hz : es.length < 100000)
    (k : ∀ d F1 H1, A d → Bs K s l F0 H0 F1 H1 ts → Ol K s l H0 F1 H1 p (es ++ [d]) → Same F F1 → (∀ q fs, q ≠ p → Ol K s l H0 F H q fs → Ol K s l H0 F1 H1 q fs) → D.nx σ H1) : tDrop (tBM K "list" rAppend (tVar i) (tCons te tNil)) D σ H := by
  refine app_em o.li hi h b.sg o.ns hz fun d F1 H1 g k1 a li ⟨H2, acc, g2, e⟩ => ?_
  have mem : ∀ q, q ≠ p → q ≠ s → q ∉ [s, p] := fun q h1 h2 z => by
    rcases List.mem_cons.mp z with z | z
    · exact h2 z
    · exact h1 (List.mem_singleton.mp z)
  have fp : F1 p = none := by
    obtain ⟨_, _, h, _⟩ := li
    exact h
  refine k d F1 H1 a ⟨?_, k1, b.li.more g (mem l (Ne.symm o.nl) b.ne), b.ne, b.so⟩ ⟨li, o.ns, o.nl, o.h0⟩ g.ff fun q fs hq oq => ⟨oq.li.more g (mem q hq oq.ns), oq.ns, oq.nl, oq.h0⟩
  rw [e]
  exact (b.gr.trans g2 fun x hx => .inl (by rw [List.mem_singleton.mp hx]; exact List.mem_cons_self)).put fp (.inr o.h0)
/-- taken.append(word) -/
theorem q_take {i j : Nat} {x : Str} (b : Bs K s l F0 H0 F H ts) (hi : σ[i]? = some (some (.ref l))) (hj : σ[j]? = some (some (.str x))) (sx : So x) (hz : ts.length < 1000)
    (k : ∀ F1 H1, Bs K s l F0 H0 F1 H1 (ts ++ [x]) → Same F F1 → (∀ q fs, Ol K s l H0 F H q fs → Ol K s l H0 F1 H1 q fs) → tz D σ H1) : tSeq (tDrop (tBM K "list" rAppend (tVar i) (tCons (tVar j) tNil))) tz D σ H := by
  refine app_em (A := fun d => d = .str x) (D := { D with nx := tz D }) b.li hi (em_of (H := H) (ed_var hj (.str x)) rfl) b.sg b.ne (by rw [List.length_map]; omega) fun d F1 H1 g k1 a li _ => ?_
  subst a
  refine k F1 H1 ⟨b.gr.trM g, k1, ?_, b.ne, fun y hy => ?_⟩ g.ff fun q fs oq => ⟨oq.li.more g fun z => ?_, oq.ns, oq.nl, oq.h0⟩
  · rw [List.map_append]
    exact li
  · rcases List.mem_append.mp hy with hy | hy
    · exact b.so y hy
    · rw [List.mem_singleton.mp hy]
      exact sx
  · rcases List.mem_cons.mp z with z | z
    · exact oq.ns z
    · exact oq.nl (List.mem_singleton.mp z)
/-- x = _law_word(state, taken) -/
theorem q_word {i j k0 : Nat} (b : Bs K s l F0 H0 F H ts) (hi : σ[i]? = some (some (.ref s))) (hj : σ[j]? = some (some (.ref l))) (hz : ts.length ≤ 19)
    (k : ∀ x F1 H1, So x → Bs K s l F0 H0 F1 H1 ts → Same F F1 → (∀ q fs, Ol K s l H0 F H q fs → Ol K s l H0 F1 H1 q fs) → tz D (σ.set k0 (some (.str x))) H1) : tSeq (tAsg (tCall (spWord K) [] E0 (tCons (tVar i) (tCons (tVar j) tNil))) (gName k0)) tz D σ H := by
  refine ⟨.ref s, hi, .ref l, hj, s, l, F, ts, rfl, b.sg, b.li, b.ne, hz, b.so, fun x F1 H1 sx g k1 => ?_⟩
  exact k x F1 H1 sx (b.st g k1) g.ff fun q fs oq => oq.st g
/-- [f a for a in p if t], p a list that may change -/
theorem li_lc {α : Type} {xs : List α} {e f : α → PyData} {pr : α → Bool} {tt : TT} {ta : TE} {i j : Nat} {vs : List Nat} (lp : Li K F H p (xs.map e)) (sm : Same F H) (hi : σ[i]? = some (some (.ref p))) (hz : xs.length ≤ 50000) (hw : ∀ x, wipe ((wipe σ vs).set j (some x)) vs = wipe σ vs)
    (ht : ∀ a x F1 H1, a ∈ xs → Bx F H F1 H1 → R K F1 x (e a) → EB tt ((wipe σ vs).set j (some x)) F1 H1 (pr a))
    (he : ∀ a x F1 H1, a ∈ xs → pr a = true → Bx F H F1 H1 → R K F1 x (e a) → ED K ta ((wipe σ vs).set j (some x)) F1 H1 (f a)) {Q : VK} (q : ∀ v F1 H1, Gr [] F H F1 H1 → R K F1 v (.list ((xs.filter pr).map f)) → Q v H1) : tLc (iList K (tVar i)) (gName j) tt ta vs σ H Q := by
  obtain ⟨ys, h1, h2, ra⟩ := lp
  refine ⟨.ref p, hi, p, rfl, ⟨ys, .inl (.inl h1)⟩, fun Dl nD => ?_⟩
  have hl : ys.length = xs.length := by rw [ra.len, List.length_map]
  refine lc_pure (xs := xs) (rel := fun a x => R K F x (e a)) (w := hl ▸ walk_list (K := K) (a := p) (xs := ys)) (fun i H x H' y => ⟨y.1, ?_⟩) sm nD (fun F3 H3 g3 => .inl (.inl (g3.hh _ _ (fun z => nomatch z) h1))) hz hw (fun a x F3 H3 ha ra g3 => ht a x F3 H3 ha g3.bx (ra.at g3.ff)) (fun a x F3 H3 ha hp ra g3 => he a x F3 H3 ha hp g3.bx (ra.at g3.ff)) q
  obtain ⟨d, hd, rd⟩ := ra.back y.2
  obtain ⟨z, hz2, rfl⟩ := get_map hd
  exact ⟨z, hz2, rd⟩
theorem q_lcLi {α : Type} {xs : List α} {e f : α → PyData} {pr : α → Bool} {tt : TT} {ta : TE} {i j i0 : Nat} {vs : List Nat} (lp : Li K F H p (xs.map e)) (sm : Same F H) (hi : σ[i]? = some (some (.ref p))) (hz : xs.length ≤ 50000) (hw : ∀ x, wipe ((wipe σ vs).set j (some x)) vs = wipe σ vs)
    (ht : ∀ a x F1 H1, a ∈ xs → Bx F H F1 H1 → R K F1 x (e a) → EB tt ((wipe σ vs).set j (some x)) F1 H1 (pr a))
    (he : ∀ a x F1 H1, a ∈ xs → pr a = true → Bx F H F1 H1 → R K F1 x (e a) → ED K ta ((wipe σ vs).set j (some x)) F1 H1 (f a)) (q : ∀ v F1 H1, Gr [] F H F1 H1 → R K F1 v (.list ((xs.filter pr).map f)) → tz D (σ.set i0 (some v)) H1) : tSeq (tAsg (tLc (iList K (tVar i)) (gName j) tt ta vs) (gName i0)) tz D σ H :=
  li_lc (Q := fun v H1 => tz D (σ.set i0 (some v)) H1) lp sm hi hz hw ht he q
/-- [x] * k, k nought or one -/
theorem rr_rep {d : PyData} {k : Nat} (hk : k ≤ 1) : RR K rRep F H (.list [d]) (.int k) (.list (List.replicate k d)) := fun F1 H1 g u v r1 r2 Q q => by
  obtain ⟨a, xs, rfl, hs, ra⟩ := r1.asLst
  cases r2.asInt
  obtain ⟨x, rfl, rx⟩ := ra.one
  refine ⟨a, k, [x], rfl, rfl, g.fh _ _ hs, by omega, by omega, ?_, fun p np => ?_⟩
  · show 1 * (k : Int).toNat ≤ sizeLine
    rw [Int.toNat_natCast, Nat.one_mul]
    exact Nat.le_trans hk (by decide)
  · rw [Int.toNat_natCast]
    have e : (List.replicate k [x]).flatten = List.replicate k x := by
      rcases Nat.le_one_iff_eq_zero_or_eq_one.mp hk with rfl | rfl <;> rfl
    rw [e]
    have g3 : Gr [] F1 H1 (upd F1 p (.lst (List.replicate k x))) (upd H1 p (.lst (List.replicate k x))) := (Gr.refl g.fh).new np
    refine q (.ref p) _ _ g3 (.lst upd_same ?_)
    have rr : RA K F1 (List.replicate k x) (List.replicate k d) := by
      rcases Nat.le_one_iff_eq_zero_or_eq_one.mp hk with rfl | rfl
      · exact .nil
      · exact .cons rx .nil
    exact rr.at g3.ff
theorem rc_min {i j : Int} : RCD K rMin2 F H [.int i, .int j] (.int (if j < i then j else i)) := fun F1 H1 g vs r Q q => by
  obtain ⟨u, v, rfl, r1, r2⟩ := r.two
  cases r1.asInt
  cases r2.asInt
  exact ⟨i, j, rfl, q _ F1 H1 (.refl g.fh) (.int _)⟩
end
end Wk
namespace Wk
open PySem PySem.Spec PyProof.Rows L2 Ly Tm
abbrev Mr := Str × List Str
abbrev Kd := Str × List Mr
def encM (m : Mr) : PyData := .tuple [.str m.1, .list (m.2.map .str)]
def encK (k : Kd) : PyData := .tuple [.str k.1, .list (k.2.map encM)]
/-- a maker of these kinds -/
def MrOk (ks : List Str) (m : Mr) : Prop := So m.1 ∧ m.2.length ≤ 2 ∧ ∀ t ∈ m.2, t ∈ ks ∧ So t
def KdOk (ks : List Str) (k : Kd) : Prop := So k.1 ∧ k.2.length ≤ 3 ∧ ∀ m ∈ k.2, MrOk ks m
def KsOk (ks : List Kd) : Prop := ∀ k ∈ ks, KdOk (ks.map (·.1)) k
def spKinds (K : PySem.W.Frag) : Sp := fun vs H Q _ => ∃ (s l : Addr) (F : Hp), vs = [.ref s, .ref l] ∧ Bs K s l F H F H [] ∧ ∀ (ks : List Kd) (ts : List Str) v F1 H1, KsOk ks → 1 ≤ ks.length → ks.length ≤ 4 → ts.length ≤ 16 → Bs K s l F H F1 H1 ts → R K F1 v (.list (ks.map encK)) → Q v H1
theorem lay_strs : ∀ ts : List Str, (∀ x ∈ ts, So x) → PyData.canLayAll0 (ts.map .str) = true ∧ PyData.depthAll (ts.map .str) = 0
  | [], _ => ⟨by simp [PyData.canLayAll0], by simp [PyData.depthAll]⟩
  | y :: ts, h => by
    obtain ⟨p, q⟩ := lay_strs ts fun z hz => h z (List.mem_cons_of_mem _ hz)
    have e := h y List.mem_cons_self
    exact ⟨by simp [PyData.canLayAll0, PyData.canLay0, e, p], by simp [PyData.depthAll, PyData.depth, q]⟩
theorem lay_makers (ks : List Str) : ∀ ms : List Mr, (∀ m ∈ ms, MrOk ks m) → PyData.canLayAll0 (ms.map encM) = true ∧ PyData.depthAll (ms.map encM) ≤ 2
  | [], _ => ⟨by simp [PyData.canLayAll0], by simp [PyData.depthAll]⟩
  | m :: ms, h => by
    obtain ⟨p, q⟩ := lay_makers ks ms fun z hz => h z (List.mem_cons_of_mem _ hz)
    obtain ⟨e, _, k⟩ := h m List.mem_cons_self
    obtain ⟨a, b⟩ := lay_strs m.2 fun x hx => (k x hx).2
    refine ⟨by simp [encM, PyData.canLayAll0, PyData.canLay0, e, p, a], ?_⟩
    simp only [List.map_cons, PyData.depthAll, encM, PyData.depth, b]
    omega
theorem shaped_makers {ks : List Str} {ms : List Mr} (h : ∀ m ∈ ms, MrOk ks m) : SeqAt.shaped (.list (ms.map encM)) = true := by
  obtain ⟨a, b⟩ := lay_makers ks ms h
  unfold SeqAt.shaped
  rw [show (PyData.list (ms.map encM)).canLay0 = true by simp [PyData.canLay0, a], Bool.true_and, decide_eq_true_eq]
  simp only [PyData.depth]
  omega
theorem shaped_strs {ts : List Str} (h : ∀ x ∈ ts, So x) : SeqAt.shaped (.list (ts.map .str)) = true := by
  obtain ⟨a, b⟩ := lay_strs ts h
  unfold SeqAt.shaped
  rw [show (PyData.list (ts.map .str)).canLay0 = true by simp [PyData.canLay0, a], Bool.true_and, decide_eq_true_eq]
  simp only [PyData.depth, b]
  omega
theorem shaped_nil : SeqAt.shaped (.list []) = true := by decide
theorem ne_nil {α : Type} (f : α → PyData) : ∀ xs : List α, (!PyData.eqv (.list (xs.map f)) (.list [])) = !xs.isEmpty
  | [] => by simp [PyData.eqv, PyData.eqvAll]
  | _ :: _ => by simp [PyData.eqv, PyData.eqvAll]
abbrev sKi : Stmt := topS 13
theorem scKi : FnScope ["_law_state_here", "_law_taken", "_law_kinds_here", "_law_k", "_law_name", "_law_told", "_law_makers", "_law_j", "_law_maker", "_law_takes", "_law_i", "_law_some", "_law_kind"] ["_law_state_here", "_law_taken"] (defScope sKi) := ⟨rfl, rfl, rfl, by decide +kernel, rfl, by decide +kernel, by decide +kernel⟩
def tKi (K : PySem.W.Frag) : TS :=
  (tSeq (tAsg (tLst tNil) (gName 2))
  (tSeq (tFor (iRng1 (tCons (tOp (rI0 fun i j => .int (i + j)) (tC (.int 1)) (tCall spDraw [] E0 (tCons (tVar 0) (tCons (tC (.int 4)) tNil)))) tNil)) (gName 3) (tSeq (tAsg (tCall (spWord K) [] E0 (tCons (tVar 0) (tCons (tVar 1) tNil))) (gName 4))
  (tSeq (tDrop (tBM K "list" rAppend (tVar 1) (tCons (tVar 4) tNil)))
  (tSeq (tAsg (tLc (iList K (tVar 2)) (gName 12) (tTest (tOp (rNeD K) (tOp (rIxT K) (tVar 12) (tC (.int 1))) (tLst tNil))) (tOp (rIxT K) (tVar 12) (tC (.int 0))) [12]) (gName 5))
  (tSeq (tAsg (tLst tNil) (gName 6))
  (tSeq (tFor (iRng1 (tCons (tCall spDraw [] E0 (tCons (tVar 0) (tCons (tC (.int 4)) tNil))) tNil)) (gName 7) (tSeq (tAsg (tCall (spWord K) [] E0 (tCons (tVar 0) (tCons (tVar 1) tNil))) (gName 8))
  (tSeq (tDrop (tBM K "list" rAppend (tVar 1) (tCons (tVar 8) tNil)))
  (tSeq (tAsg (tLst tNil) (gName 9))
  (tSeq (tFor (iRng1 (tCons (tCall spDraw [] E0 (tCons (tVar 0) (tCons (tC (.int 3)) tNil))) tNil)) (gName 10) (tSeq (tAsg (tOp rCat (tVar 5) (tOp rRep (tLst (tCons (tVar 4) tNil)) (tCB rMin2 (tCons (tVar 7) (tCons (tC (.int 1)) tNil))))) (gName 11))
  (tIfS (tTest (tOp (rNeD K) (tVar 11) (tLst tNil))) (tDrop (tBM K "list" rAppend (tVar 9) (tCons (tOp (rIxL K) (tVar 11) (tCall spDraw [] E0 (tCons (tVar 0) (tCons (tCB (rLenOf K) (tCons (tVar 11) tNil)) tNil)))) tNil))) tNext)))
  (tDrop (tBM K "list" rAppend (tVar 6) (tCons (tTup (tCons (tVar 8) (tCons (tVar 9) tNil))) tNil))))))))
  (tDrop (tBM K "list" rAppend (tVar 2) (tCons (tTup (tCons (tVar 4) (tCons (tVar 6) tNil))) tNil)))))))))
  (tRet (tVar 2))))
section
variable {P : Program} {w : World} {K : PySem.W.Frag} {mg : Str → Option Value} {base : Heap}
theorem pure_Ki (vs : List V) (H : Hp) (Q : VK) (E : XK) (h : spKinds K vs H Q E) : tKi K { nx := fun _ H' => Q .non H', rt := Q } (start ["_law_state_here", "_law_taken", "_law_kinds_here", "_law_k", "_law_name", "_law_told", "_law_makers", "_law_j", "_law_maker", "_law_takes", "_law_i", "_law_some", "_law_kind"] vs) H := by
  obtain ⟨s, l, F, rfl, b0, q⟩ := h
  -- kinds = []
  refine q_new b0 fun p2 H1 b1 o1 _ => ?_
  -- for k in range(1 + draw(4))
  have cnt : EM K s (tOp (rI0 fun i j => .int (i + j)) (tC (.int 1)) (tCall spDraw [] E0 (tCons (tVar 0) (tCons (tC (.int 4)) tNil)))) [some (.ref s), some (.ref l), some (.ref p2), none, none, none, none, none, none, none, none, none, none] F (fun d => ∃ n : Nat, d = .int n ∧ 1 ≤ n ∧ n ≤ 4) := by
    refine em_op (em_of (H := H1) ed_int rfl (A := fun d => d = .int 1)) (fun F3 _ => em_draw (m := 4) (H := H1) rfl ed_int (by decide) (by decide)) ?_
    rintro d e rfl ⟨b, rfl, hb⟩
    refine ⟨_, ⟨1 + b, rfl, by omega, by omega⟩, fun F5 H5 => ?_⟩
    rw [Int.natCast_add]
    exact rr_add
  refine qm_forR cnt b1.sg fun d F2 H2 g2 k2 a2 => ?_
  obtain ⟨n, rfl, hn1, hn4⟩ := a2
  refine ⟨n, rfl, by omega, fun i σ H3 => ∃ (F3 : Hp) (ks : List Kd) (ts : List Str) (y3 y4 y5 y6 y7 y8 y9 y10 y11 : Option V), σ = [some (.ref s), some (.ref l), some (.ref p2), y3, y4, y5, y6, y7, y8, y9, y10, y11, none] ∧ Bs K s l F H F3 H3 ts ∧ Ol K s l H F3 H3 p2 (ks.map encK) ∧ ks.length = i ∧ ts.length ≤ 4 * i ∧ KsOk ks,
    ⟨F2, [], [], none, none, none, none, none, none, none, none, none, rfl, b1.st g2 k2, o1.st g2, rfl, Nat.le_refl _, fun k hk => nomatch hk⟩, ?_, ?_⟩
  · rintro i σ H3 hi ⟨F3, ks, ts, y3, y4, y5, y6, y7, y8, y9, y10, y11, rfl, b3, o3, hk, ht, okk⟩
    -- name = word(..); taken.append(name)
    refine q_word b3 rfl rfl (by omega) fun nm F4 H4 snm b4 s4 u4 => ?_
    have o4 := u4 _ _ o3
    refine q_take b4 rfl rfl snm (by omega) fun F5 H5 b5 s5 u5 => ?_
    have o5 := u5 _ _ o4
    -- told = [..]
    refine q_lcLi (xs := ks) (e := encK) (f := fun k => .str k.1) (pr := fun k => !k.2.isEmpty) o5.li b5.sg.fh rfl (by omega) (fun _ => rfl) (fun a x F6 H6 ha g6 rx => ?_) (fun a x F6 H6 ha _ g6 rx => ed_op (ed_var rfl rx) ed_int (rr_ixT (atI_nat (j := 0) rfl))) fun vt F6 H6 g6 r6 => ?_
    · rw [← ne_nil encM]
      exact eb_test (ed_op (ed_op (ed_var rfl rx) ed_int (rr_ixT (atI_nat (j := 1) rfl))) (ed_lst ea_nil (by simp)) (rr_neD (shaped_makers (okk a ha).2.2) shaped_nil))
    have b6 := b5.pure g6
    have o6 := o5.pure g6
    have told : ∃ tl : List Str, (List.map (fun k : Kd => PyData.str k.1) (List.filter (fun k => !k.2.isEmpty) ks)) = tl.map .str ∧ tl.length ≤ 4 ∧ ∀ x ∈ tl, x ∈ ks.map (·.1) ∧ So x := by
      refine ⟨(ks.filter fun k => !k.2.isEmpty).map (·.1), by rw [List.map_map]; rfl, ?_, fun x hx => ?_⟩
      · rw [List.length_map]
        have := List.length_filter_le (fun k : Kd => !k.2.isEmpty) ks
        omega
      · obtain ⟨k, hk1, rfl⟩ := List.mem_map.mp hx
        have hk2 := (List.mem_filter.mp hk1).1
        exact ⟨List.mem_map.mpr ⟨k, hk2, rfl⟩, (okk k hk2).1⟩
    obtain ⟨tl, etl, htl, otl⟩ := told
    rw [etl] at r6
    -- makers = []
    refine q_new b6 fun p6 H7 b7 o7 u7 => ?_
    obtain ⟨o2, n26⟩ := u7 _ _ o6
    -- for j in range(draw(4))
    refine qm_forR (K := K) (em_draw (m := 4) (H := H7) rfl ed_int (by decide) (by decide)) b7.sg fun d F8 H8 g8 k8 a8 => ?_
    obtain ⟨n2, rfl, hn2⟩ := a8
    refine ⟨n2, rfl, by omega, fun j σ H9 => ∃ (F9 : Hp) (ms : List Mr) (ts : List Str) (y3 y7 y8 y9 y10 y11 : Option V), σ = [some (.ref s), some (.ref l), some (.ref p2), y3, some (.str nm), some vt, some (.ref p6), y7, y8, y9, y10, y11, none] ∧ Bs K s l F H F9 H9 ts ∧ Ol K s l H F9 H9 p2 (ks.map encK) ∧ Ol K s l H F9 H9 p6 (ms.map encM) ∧ Same F6 F9 ∧ ms.length = j ∧ ts.length ≤ 4 * i + 1 + j ∧ ∀ m ∈ ms, MrOk (ks.map (·.1) ++ [nm]) m,
      ⟨F8, [], ts ++ [nm], _, _, _, _, _, _, rfl, b7.st g8 k8, o2.st g8, o7.st g8, g8.ff, rfl, by rw [List.length_append]; show ts.length + 1 ≤ _; omega, fun m hm => nomatch hm⟩, ?_, ?_⟩
    · rintro j σ H9 hj ⟨F9, ms, ts, y3, y7, y8, y9, y10, y11, rfl, b9, o29, o69, s69, hms, hts, okm⟩
      -- maker = word(..); taken.append(maker)
      refine q_word b9 rfl rfl (by omega) fun mk F10 H10 smk b10 s10 u10 => ?_
      have o2a := u10 _ _ o29
      have o6a := u10 _ _ o69
      refine q_take b10 rfl rfl smk (by omega) fun F11 H11 b11 s11 u11 => ?_
      have o2b := u11 _ _ o2a
      have o6b := u11 _ _ o6a
      -- takes = []
      refine q_new b11 fun p9 H12 b12 o12 u12 => ?_
      obtain ⟨o2c, n29⟩ := u12 _ _ o2b
      obtain ⟨o6c, n69⟩ := u12 _ _ o6b
      have rt := r6.at ((s69.trans s10).trans s11)
      -- for i in range(draw(3))
      refine qm_forR (K := K) (em_draw (m := 3) (H := H12) rfl ed_int (by decide) (by decide)) b12.sg fun d F13 H13 g13 k13 a13 => ?_
      obtain ⟨n3, rfl, hn3⟩ := a13
      refine ⟨n3, rfl, by omega, fun i3 σ H14 => ∃ (F14 : Hp) (tk : List Str) (y10 y11 : Option V), σ = [some (.ref s), some (.ref l), some (.ref p2), y3, some (.str nm), some vt, some (.ref p6), some (.int (j : Nat)), some (.str mk), some (.ref p9), y10, y11, none] ∧ Bs K s l F H F14 H14 (ts ++ [mk]) ∧ Ol K s l H F14 H14 p2 (ks.map encK) ∧ Ol K s l H F14 H14 p6 (ms.map encM) ∧ Ol K s l H F14 H14 p9 (tk.map .str) ∧ Same F11 F14 ∧ tk.length ≤ i3 ∧ ∀ t ∈ tk, t ∈ ks.map (·.1) ++ [nm] ∧ So t,
        ⟨F13, [], _, _, rfl, b12.st g13 k13, o2c.st g13, o6c.st g13, o12.st g13, g13.ff, Nat.le_refl _, fun t ht => nomatch ht⟩, ?_, ?_⟩
      · rintro i3 σ H14 hi3 ⟨F14, tk, y10, y11, rfl, b14, o2d, o6d, o9d, s14, htk, otk⟩
        -- some = told + [name] * min(j, 1)
        have rt14 := rt.at s14
        have mn : ∃ kk : Nat, kk ≤ 1 ∧ (if (1 : Int) < (j : Nat) then (1 : Int) else (j : Nat)) = (kk : Int) := by
          by_cases c : (1 : Int) < (j : Nat)
          · exact ⟨1, Nat.le_refl _, by rw [if_pos c]; rfl⟩
          · exact ⟨j, by omega, by rw [if_neg c]⟩
        obtain ⟨kk, hkk, ekk⟩ := mn
        have eMin : ∀ σ : L2.St, σ[7]? = some (some (.int (j : Nat))) → ED K (tCB rMin2 (tCons (tVar 7) (tCons (tC (.int 1)) tNil))) σ F14 H14 (.int (kk : Nat)) := fun σ h7 => by
          rw [← ekk]
          exact ed_cb (ea_cons (ed_var h7 (.int _)) (ea_cons ed_int ea_nil)) rc_min
        refine q_set (K := K) (d := .list ((tl ++ List.replicate kk nm).map .str)) ?_ b14.sg.fh fun vs F15 H15 g15 r15 => ?_
        · rw [List.map_append, List.map_replicate]
          exact ed_op (ed_var rfl rt14) (ed_op (ed_lst (ea_cons (ed_var rfl (.str nm)) ea_nil) (by simp)) (eMin _ rfl) (rr_rep hkk)) (rr_cat (by simp; omega))
        have b15 := b14.pure g15
        have o2e := o2d.pure g15
        have o6e := o6d.pure g15
        have o9e := o9d.pure g15
        have okS : ∀ x ∈ tl ++ List.replicate kk nm, x ∈ ks.map (·.1) ++ [nm] ∧ So x := fun x hx => by
          rcases List.mem_append.mp hx with hx | hx
          · exact ⟨List.mem_append_left _ (otl x hx).1, (otl x hx).2⟩
          · rw [(List.mem_replicate.mp hx).2]
            exact ⟨List.mem_append_right _ (List.mem_singleton.mpr rfl), snm⟩
        have hS : (tl ++ List.replicate kk nm).length ≤ 5 := by rw [List.length_append, List.length_replicate]; omega
        generalize tl ++ List.replicate kk nm = sm at r15 okS hS
        -- if some != []
        refine EB.go (eb_test (ed_op (ed_var rfl r15) (ed_lst ea_nil (by simp)) (rr_neD (shaped_strs fun x hx => (okS x hx).2) shaped_nil))) b15.sg.fh fun F16 H16 g16 => ?_
        rw [ne_nil]
        have b16 := b15.pure g16
        have o2f := o2e.pure g16
        have o6f := o6e.pure g16
        have o9f := o9e.pure g16
        cases hsm : sm with
        | nil => exact iteF ⟨F16, tk, _, _, rfl, b16, o2f, o6f, o9f, (s14.trans g15.ff).trans g16.ff, by omega, otk⟩
        | cons x0 xr =>
          have lenS : ED K (tCB (rLenOf K) (tCons (tVar 11) tNil)) [some (.ref s), some (.ref l), some (.ref p2), y3, some (.str nm), some vt, some (.ref p6), some (.int (j : Nat)), some (.str mk), some (.ref p9), some (.int (i3 : Nat)), some vs, none] F16 H16 (.int (sm.length : Nat)) := by
            have z := ed_cb (σ := [some (.ref s), some (.ref l), some (.ref p2), y3, some (.str nm), some vt, some (.ref p6), some (.int (j : Nat)), some (.str mk), some (.ref p9), some (.int (i3 : Nat)), some vs, none]) (ea_cons (ed_var (i := 11) rfl (r15.at g16.ff)) ea_nil) (rc_lenL (F := F16) (H := H16))
            rw [List.length_map] at z
            exact z
          have pick : EM K s (tOp (rIxL K) (tVar 11) (tCall spDraw [] E0 (tCons (tVar 0) (tCons (tCB (rLenOf K) (tCons (tVar 11) tNil)) tNil)))) [some (.ref s), some (.ref l), some (.ref p2), y3, some (.str nm), some vt, some (.ref p6), some (.int (j : Nat)), some (.str mk), some (.ref p9), some (.int (i3 : Nat)), some vs, none] F16 (fun d => ∃ t ∈ sm, d = .str t) := by
            refine em_op (em_of (H := H16) (ed_var rfl (r15.at g16.ff)) rfl (A := fun d => d = .list (sm.map .str))) (fun F17 s17 => em_draw (m := sm.length) (H := H16) rfl (lenS.up s17) (by rw [hsm, List.length_cons]; omega) (by omega)) ?_
            rintro d e rfl ⟨r, rfl, hr⟩
            exact ⟨_, ⟨sm[r], List.getElem_mem hr, rfl⟩, fun F5 H5 => rr_ixL (atI_map (List.getElem?_eq_getElem hr))⟩
          refine iteT (ol_app b16 o9f rfl pick (by rw [List.length_map]; omega) fun d F17 H17 a17 b17 o17 s17 u17 => ?_)
          obtain ⟨t, ht, rfl⟩ := a17
          refine ⟨F17, tk ++ [t], _, _, rfl, b17, u17 _ _ n29 o2f, u17 _ _ n69 o6f, by rw [List.map_append]; exact o17, ((s14.trans g15.ff).trans g16.ff).trans s17, by rw [List.length_append]; show tk.length + 1 ≤ i3 + 1; omega, fun u hu => ?_⟩
          rcases List.mem_append.mp hu with hu | hu
          · exact otk u hu
          · rw [List.mem_singleton.mp hu]
            exact okS t ht
      · rintro σ H14 ⟨F14, tk, y10, y11, rfl, b14, o2d, o6d, o9d, s14, htk, otk⟩
        -- makers.append((maker, takes))
        obtain ⟨F15, b15, s15, r15, u15⟩ := b14.freeze o9d
        have o2e := u15 _ _ n29 o2d
        have o6e := u15 _ _ n69 o6d
        refine ol_app b15 o6e rfl (em_of (H := H14) (A := fun d => d = encM (mk, tk)) (ed_tup (ea_cons (ed_var rfl (.str mk)) (ea_cons (ed_var rfl r15) ea_nil)) (by simp)) rfl) (by rw [List.length_map]; omega) fun d F16 H16 a16 b16 o16 s16 u16 => ?_
        subst a16
        refine ⟨F16, ms ++ [(mk, tk)], ts ++ [mk], _, _, _, _, _, _, rfl, b16, u16 _ _ n26 o2e, by rw [List.map_append]; exact o16, (((s69.trans s10).trans s11).trans (s14.trans s15)).trans s16, by rw [List.length_append]; show ms.length + 1 = j + 1; omega, by rw [List.length_append]; show ts.length + 1 ≤ _; omega, fun m hm => ?_⟩
        rcases List.mem_append.mp hm with hm | hm
        · exact okm m hm
        · rw [List.mem_singleton.mp hm]
          exact ⟨smk, by show tk.length ≤ 2; omega, otk⟩
    · rintro σ H9 ⟨F9, ms, ts, y3, y7, y8, y9, y10, y11, rfl, b9, o29, o69, s69, hms, hts, okm⟩
      -- kinds.append((name, makers))
      obtain ⟨F10, b10, s10, r10, u10⟩ := b9.freeze o69
      have o2a := u10 _ _ n26 o29
      refine ol_app b10 o2a rfl (em_of (H := H9) (A := fun d => d = encK (nm, ms)) (ed_tup (ea_cons (ed_var rfl (.str nm)) (ea_cons (ed_var rfl r10) ea_nil)) (by simp)) rfl) (by rw [List.length_map]; omega) fun d F11 H11 a11 b11 o11 s11 u11 => ?_
      subst a11
      refine ⟨F11, ks ++ [(nm, ms)], ts, _, _, _, _, _, _, _, _, _, rfl, b11, by rw [List.map_append]; exact o11, by rw [List.length_append]; show ks.length + 1 = i + 1; omega, by omega, fun k hk => ?_⟩
      rw [List.map_append]
      rcases List.mem_append.mp hk with hk | hk
      · obtain ⟨z1, z2, z3⟩ := okk k hk
        exact ⟨z1, z2, fun m hm => ⟨(z3 m hm).1, (z3 m hm).2.1, fun t ht => ⟨List.mem_append_left _ ((z3 m hm).2.2 t ht).1, ((z3 m hm).2.2 t ht).2⟩⟩⟩
      · rw [List.mem_singleton.mp hk]
        exact ⟨snm, by show ms.length ≤ 3; omega, okm⟩
  · rintro σ H3 ⟨F3, ks, ts, y3, y4, y5, y6, y7, y8, y9, y10, y11, rfl, b3, o3, hk, ht, okk⟩
    obtain ⟨F4, b4, s4, r4, _⟩ := b3.freeze o3
    exact ⟨.ref p2, rfl, q ks ts (.ref p2) F4 H3 okk (by omega) (by omega) (by omega) b4 r4⟩
end
end Wk
/-! comprehensions whose element turns the state. -/
namespace Wk
open PySem PySem.Spec PyProof.Rows L2 Ly Tm
section
variable {K : PySem.W.Frag} {s : Addr} {F H F1 H1 : Hp} {σ : L2.St} {te ta : TE} {A B : PyData → Prop} {D : Ends} {tz : TS}
def MkM (K : PySem.W.Frag) (s : Addr) (F H : Hp) (Dl : Addr) (A : PyData → Prop) (n : Nat) (H1 : Hp) : Prop := ∃ F1 acc ds, Gr [s] F H F1 H1 ∧ Sg s F1 H1 ∧ Dl ≠ s ∧ H Dl = none ∧ H1 Dl = some (.lst acc) ∧ F1 Dl = none ∧ RA K F1 acc ds ∧ ds.length = n ∧ ∀ d ∈ ds, A d
theorem MkM.start {Dl : Addr} (k : Sg s F H) (h : H Dl = none) : MkM K s F H Dl A 0 (upd H Dl (.lst [])) := by
  have g : Gr [] F H F (upd H Dl (.lst [])) := (Gr.refl k.fh).newM h
  have nd : Dl ≠ s := fun z => by
    obtain ⟨x, y, e⟩ := k.st
    rw [z, e] at h
    cases h
  exact ⟨F, [], [], g.w, k.to g, nd, h, upd_same, same_none k.fh h, .nil, rfl, fun _ z => nomatch z⟩
theorem MkM.turn {Dl : Addr} {n : Nat} (m : MkM K s F H Dl A n H1) (hz : n < 100000) (he : ∀ F1, Gr [s] F H F1 H1 → EM K s te σ F1 A) : te σ H1 fun y H4 => ∃ acc, H4 Dl = some (.lst acc) ∧ acc.length < sizeLine ∧ MkM K s F H Dl A (n + 1) (upd H4 Dl (.lst (acc ++ [y]))) := by
  obtain ⟨F1, acc, ds, g, k, nd, h0, h1, h2, ra, hl, ha⟩ := m
  refine (he F1 g).go k fun v d F2 H2 g2 k2 a r => ?_
  have hD : Dl ∉ [s] := fun z => nd (List.mem_singleton.mp z)
  have hF : F2 Dl = none := g2.still h2 h1
  have g3 : Gr [s] F H F2 (upd H2 Dl (.lst (acc ++ [v]))) := (g.trM g2).put hF (.inr h0)
  obtain ⟨x, y, e⟩ := k2.st
  refine ⟨acc, g2.hh _ _ hD h1, by rw [ra.len]; exact Nat.lt_of_lt_of_le (by omega) (by decide : 100000 ≤ sizeLine), F2, acc ++ [v], ds ++ [d], g3, ⟨g3.fh, k2.fs, x, y, by rw [upd_ne (Ne.symm nd)]; exact e⟩, nd, h0, upd_same, hF, (ra.at g2.ff).app (.cons r .nil), by rw [List.length_append, hl]; rfl, fun z hz => ?_⟩
  rcases List.mem_append.mp hz with hz | hz
  · exact ha z hz
  · rw [List.mem_singleton.mp hz]
    exact a
theorem MkM.done {Dl : Addr} {n : Nat} (m : MkM K s F H Dl A n H1) {Q : VK} (q : ∀ v d F2 H2, Gr [s] F H F2 H2 → Sg s F2 H2 → (∃ ds, d = .list ds ∧ ds.length = n ∧ ∀ x ∈ ds, A x) → R K F2 v d → Q v H2) : Q (.ref Dl) H1 := by
  obtain ⟨F1, acc, ds, g, k, nd, h0, h1, h2, ra, hl, ha⟩ := m
  have g2 := g.freeze h1 h2 h0
  have sm : Same F1 (upd F1 Dl (.lst acc)) := fun b o e => by rw [upd_ne (ne_some h2 e)]; exact e
  refine q (.ref Dl) (.list ds) _ H1 g2 ⟨g2.fh, by rw [upd_ne (Ne.symm nd)]; exact k.fs, k.st⟩ ⟨ds, rfl, hl, ha⟩ (.lst upd_same (ra.at sm))
/-- over range(n), n drawn -/
theorem em_lcR {N : Nat} {j : Nat} {vs : List Nat} (h : EM K s te σ F B) (hB : ∀ d, B d → ∃ n : Nat, d = .int n ∧ n ≤ N) (hN : N ≤ 1000) (hw : ∀ x, wipe ((wipe σ vs).set j (some x)) vs = wipe σ vs) (he : ∀ (i : Nat) F1, Same F F1 → EM K s ta ((wipe σ vs).set j (some (.int i))) F1 A) :
    EM K s (tLc (iRng1 (tCons te tNil)) (gName j) tYes ta vs) σ F (fun d => ∃ ds, d = .list ds ∧ ds.length ≤ N ∧ ∀ x ∈ ds, A x) := fun F1 H1 sm k Q q =>
  h F1 H1 sm k _ fun v d F2 H2 g2 k2 b r => by
    obtain ⟨n, rfl, hn⟩ := hB d b
    refine ⟨n, by rw [r.asInt], by omega, by omega, fun Dl nD => ?_⟩
    rw [Int.toNat_natCast]
    refine lc_range (lo := 0) (n := n) (fun i H3 => MkM K s F2 H2 Dl A i H3) (MkM.start k2 nD) (fun i H3 hi m => ⟨hw _, ?_⟩) fun H3 m => ?_
    · refine iteT (B := MkM K s F2 H2 Dl A (i + 1) H3) ?_
      rw [Int.zero_add]
      exact m.turn (by omega) fun F3 g3 => he i F3 (sm.trans (g2.ff.trans g3.ff))
    · refine m.done fun v d F3 H4 g3 k3 a3 r3 => ?_
      obtain ⟨ds, e, hl, ha⟩ := a3
      exact q v d F3 H4 (g2.trM g3) k3 ⟨ds, e, by omega, ha⟩ r3
/-- over a list of data -/
theorem em_lcL {α : Type} {xs : List α} {e : α → PyData} {j : Nat} {vs : List Nat} (h : ED K te σ F H (.list (xs.map e))) (hz : xs.length ≤ 1000) (hw : ∀ x, wipe ((wipe σ vs).set j (some x)) vs = wipe σ vs) (he : ∀ a x F1, a ∈ xs → Same F F1 → R K F1 x (e a) → EM K s ta ((wipe σ vs).set j (some x)) F1 A) :
    EM K s (tLc (iList K te) (gName j) tYes ta vs) σ F (fun d => ∃ ds, d = .list ds ∧ ds.length = xs.length ∧ ∀ x ∈ ds, A x) := fun F1 H1 sm k Q q =>
  h F1 H1 ⟨sm, k.fh⟩ _ fun v F2 H2 g2 r => by
    obtain ⟨a, ys, rfl, hs, ra⟩ := r.asLst
    have k2 := k.to g2
    refine ⟨a, rfl, ⟨ys, .inl (.inl (g2.fh _ _ hs))⟩, fun Dl nD => ?_⟩
    have hl : ys.length = xs.length := by rw [ra.len, List.length_map]
    refine lc_list (xs := ys) (fun i H3 => MkM K s F2 H2 Dl A i H3) (MkM.start k2 nD) (fun i H3 _ m => ?_) (fun i x H3 hx m => ⟨hw _, ?_⟩) fun H3 m => ?_
    · obtain ⟨F3, acc, ds, g3, _⟩ := m
      exact .inl (.inl (g3.fh _ _ (g3.ff _ _ hs)))
    · refine iteT (B := MkM K s F2 H2 Dl A (i + 1) H3) ?_
      obtain ⟨d, hd, rd⟩ := ra.back hx
      obtain ⟨z, hz2, rfl⟩ := get_map hd
      have hi : i < xs.length := (List.getElem?_eq_some_iff.mp hz2).1
      exact m.turn (by omega) fun F3 g3 => he z x F3 (List.mem_of_getElem? hz2) (sm.trans (g2.ff.trans g3.ff)) (rd.at g3.ff)
    · rw [hl] at m
      exact m.done fun v d F3 H4 g3 k3 a3 r3 => q v d F3 H4 ((Gr.w g2).trM g3) k3 a3 r3
theorem em_tup2 {C : PyData → Prop} {tb : TE} (ha : EM K s ta σ F A) (hb : ∀ F1, Same F F1 → EM K s tb σ F1 B) (hc : ∀ a b, A a → B b → C (.tuple [a, b])) : EM K s (tTup (tCons ta (tCons tb tNil))) σ F C := fun F1 H1 sm k Q q =>
  ha F1 H1 sm k _ fun v d F2 H2 g2 k2 a r1 => hb F2 (sm.trans g2.ff) F2 H2 (Same.refl F2) k2 _ fun u e F3 H3 g3 k3 b r2 => ⟨by show 2 ≤ sizeLine; decide, fun p np => by
    have g4 : Gr [] F3 H3 (upd F3 p (.tup [v, u])) (upd H3 p (.tup [v, u])) := (Gr.refl k3.fh).new np
    exact q (.ref p) _ _ _ ((g2.trM g3).trM g4.w) (k3.to g4) (hc d e a b) (.tup (.inl (.inl upd_same)) (.cons ((r1.at g3.ff).at g4.ff) (.cons (r2.at g4.ff) .nil)))⟩
/-- several, from the left -/
def EMs (K : PySem.W.Frag) (s : Addr) (tr : TA) (σ : L2.St) (F : Hp) (A : List PyData → Prop) : Prop := ∀ F1 H1, Same F F1 → Sg s F1 H1 → ∀ Q : List V → Hp → Prop, (∀ vs ds F2 H2, Gr [s] F1 H1 F2 H2 → Sg s F2 H2 → A ds → RA K F2 vs ds → Q vs H2) → tr σ H1 Q
theorem ems_nil : EMs K s tNil σ F (fun l => l = []) := fun F1 H1 _ k Q q => q [] [] F1 H1 (Gr.refl k.fh) k rfl .nil
theorem ems_cons {tr : TA} {C : List PyData → Prop} (ha : EM K s ta σ F A) (hr : ∀ F1, Same F F1 → EMs K s tr σ F1 C) : EMs K s (tCons ta tr) σ F (fun l => ∃ d ds, l = d :: ds ∧ A d ∧ C ds) := fun F1 H1 sm k Q q =>
  ha F1 H1 sm k _ fun v d F2 H2 g2 k2 a r => hr F2 (sm.trans g2.ff) F2 H2 (Same.refl F2) k2 _ fun vs ds F3 H3 g3 k3 c rs => q (v :: vs) (d :: ds) F3 H3 (g2.trM g3) k3 ⟨d, ds, rfl, a, c⟩ (.cons (r.at g3.ff) rs)
theorem em_tup {tr : TA} {C : List PyData → Prop} (h : EMs K s tr σ F C) (hz : ∀ l, C l → l.length ≤ 100000) : EM K s (tTup tr) σ F (fun d => ∃ l, d = .tuple l ∧ C l) := fun F1 H1 sm k Q q =>
  h F1 H1 sm k _ fun vs ds F2 H2 g2 k2 c rs => ⟨by rw [rs.len]; exact Nat.le_trans (hz ds c) (by decide), fun p np => by
    have g4 : Gr [] F2 H2 (upd F2 p (.tup vs)) (upd H2 p (.tup vs)) := (Gr.refl k2.fh).new np
    exact q (.ref p) _ _ _ (g2.trM g4.w) (k2.to g4) ⟨ds, rfl, c⟩ (.tup (.inl (.inl upd_same)) (rs.at g4.ff))⟩
end
end Wk
namespace Wk
open PySem PySem.Spec PyProof.Rows L2 Ly Tm
section
variable {P : Program} {w : World} {K : PySem.W.Frag} {mg : Str → Option Value} {base : Heap}
theorem ok_Ki {f fD fW : Addr} {fd fdD fdW : FuncData} {k : Nat} (D : Df K mg "_law_kinds" sKi ["_law_state_here", "_law_taken"] f fd) (DD : Df K mg "_law_draw" sDr ["_law_state_here", "_law_many"] fD fdD) (DW : Df K mg "_law_word" sWo ["_law_state_here", "_law_others"] fW fdW) (GD : FnOk P w K mg base CX0 1 fD fdD ["_law_state_here", "_law_many"] spDraw) (GW : FnOk P w K mg base CX0 2 fW fdW ["_law_state_here", "_law_others"] (spWord K))
    (m_range : mg "range" = none) (m_len : mg "len" = none) (m_min : mg "min" = none) : FnOk P w K mg base CX0 (k + 3) f fd ["_law_state_here", "_law_taken"] (spKinds K) := by
  refine D.F.ok scKi (fun vs H Q E h => ?_) (fun cdv A outer s H vs Q E hr h => ⟨tKi K, ?_, pure_Ki vs H Q E h⟩)
  · obtain ⟨s, l, F, rfl, _⟩ := h
    rfl
  · exact (pss_cons (ps_set (i := 2) scKi.nd rfl (Or.inl rfl) (pe_lst pa_nil))
    (pss_cons (ps_for PassesOwn.never (by rfl) (pi_range1 (by rfl) m_range (pa_cons (pe_op op_add pe_int (pe_call GD (hr.mono (by omega)) (by rfl) DD.g DD.F.kp DD.b .nil pass0 (pa_cons (pv 0) (pa_cons pe_int pa_nil)))) pa_nil)) (pg_name (i := 3) scKi.nd rfl (Or.inl rfl)) (pss_cons (ps_set (i := 4) scKi.nd rfl (Or.inl rfl) (pe_call GW (hr.mono (by omega)) (by rfl) DW.g DW.F.kp DW.b .nil pass0 (pa_cons (pv 0) (pa_cons (pv 1) pa_nil))))
    (pss_cons (ps_expr (pe_bm PySem.F.plainAttrs_list PySem.F.slot_list_append PySem.F.type_list_append mt_append (pv 1) (pa_cons (pv 4) pa_nil)))
    (pss_cons (ps_setLc (i := 5) (own := [("_law_kind", 12)]) (g := (gName 12)) (tt := (tTest (tOp (rNeD K) (tOp (rIxT K) (tVar 12) (tC (.int 1))) (tLst tNil)))) (by rfl) scKi.nd rfl rfl (sw_true rfl rfl rfl (by decide +kernel)) (pi_list (pv 2)) (blkOk_by (own := [("_law_kind", 12)]) (N := ["_law_state_here", "_law_taken", "_law_kinds_here", "_law_k", "_law_name", "_law_told", "_law_makers", "_law_j", "_law_maker", "_law_takes", "_law_i", "_law_some", "_law_kind"]) (sc := defScope sKi) (by decide +kernel)) (fun _ _ _ _ _ => (pg_name (i := 12) scKi.nd rfl (Or.inl rfl))) (fun _ _ _ _ _ => (pts_one (pt_cmpR (op_neD hr.units) (pe_ix ix_tup (pv 12) pe_int (fun _ _ => rfl)) (pe_lst pa_nil) (nomark _)))) (fun _ _ _ _ _ => (pe_ix ix_tup (pv 12) pe_int (fun _ _ => rfl))))
    (pss_cons (ps_set (i := 6) scKi.nd rfl (Or.inl rfl) (pe_lst pa_nil))
    (pss_cons (ps_for PassesOwn.never (by rfl) (pi_range1 (by rfl) m_range (pa_cons (pe_call GD (hr.mono (by omega)) (by rfl) DD.g DD.F.kp DD.b .nil pass0 (pa_cons (pv 0) (pa_cons pe_int pa_nil))) pa_nil)) (pg_name (i := 7) scKi.nd rfl (Or.inl rfl)) (pss_cons (ps_set (i := 8) scKi.nd rfl (Or.inl rfl) (pe_call GW (hr.mono (by omega)) (by rfl) DW.g DW.F.kp DW.b .nil pass0 (pa_cons (pv 0) (pa_cons (pv 1) pa_nil))))
    (pss_cons (ps_expr (pe_bm PySem.F.plainAttrs_list PySem.F.slot_list_append PySem.F.type_list_append mt_append (pv 1) (pa_cons (pv 8) pa_nil)))
    (pss_cons (ps_set (i := 9) scKi.nd rfl (Or.inl rfl) (pe_lst pa_nil))
    (pss_cons (ps_for PassesOwn.never (by rfl) (pi_range1 (by rfl) m_range (pa_cons (pe_call GD (hr.mono (by omega)) (by rfl) DD.g DD.F.kp DD.b .nil pass0 (pa_cons (pv 0) (pa_cons pe_int pa_nil))) pa_nil)) (pg_name (i := 10) scKi.nd rfl (Or.inl rfl)) (pss_cons (ps_set (i := 11) scKi.nd rfl (Or.inl rfl) (pe_op op_cat (pv 5) (pe_op op_rep (pe_lst (pa_cons (pv 4) pa_nil)) (pe_callB (call_min2 (by rfl)) (by rfl) m_min (by decide +kernel) (pa_cons (pv 7) (pa_cons pe_int pa_nil))))))
    (pss_one (ps_if (pt_cmpR (op_neD hr.units) (pv 11) (pe_lst pa_nil) (nomark _)) (pss_one (ps_expr (pe_bm PySem.F.plainAttrs_list PySem.F.slot_list_append PySem.F.type_list_append mt_append (pv 9) (pa_cons (pe_ix ix_list (pv 11) (pe_call GD (hr.mono (by omega)) (by rfl) DD.g DD.F.kp DD.b .nil pass0 (pa_cons (pv 0) (pa_cons (pe_callB call_len_seq (by rfl) m_len (by decide +kernel) (pa_cons (pv 11) pa_nil)) pa_nil))) (fun _ _ => rfl)) pa_nil)))) pss_nil))))
    (pss_one (ps_expr (pe_bm PySem.F.plainAttrs_list PySem.F.slot_list_append PySem.F.type_list_append mt_append (pv 6) (pa_cons (pe_tup (pa_cons (pv 8) (pa_cons (pv 9) pa_nil))) pa_nil)))))))))
    (pss_one (ps_expr (pe_bm PySem.F.plainAttrs_list PySem.F.slot_list_append PySem.F.type_list_append mt_append (pv 2) (pa_cons (pe_tup (pa_cons (pv 4) (pa_cons (pv 6) pa_nil))) pa_nil))))))))))
    (pss_one (ps_ret (pv 2)))))
end
abbrev Wr := Str × List Str × Str
def encW (w : Wr) : PyData := .tuple [.str w.1, .list (w.2.1.map .str), .str w.2.2, .none, .list []]
def WrOk (ks : List Str) (w : Wr) : Prop := So w.1 ∧ w.2.1.length ≤ 3 ∧ (∀ t ∈ w.2.1, t ∈ ks ∧ So t) ∧ w.2.2 ∈ ks ∧ So w.2.2
def spWorks (K : PySem.W.Frag) : Sp := fun vs H Q _ => ∃ (s l : Addr) (F : Hp) (v : V) (ks : List Kd) (ts : List Str), vs = [.ref s, v, .ref l] ∧ Bs K s l F H F H ts ∧ ts.length ≤ 16 ∧ R K F v (.list (ks.map encK)) ∧ KsOk ks ∧ 1 ≤ ks.length ∧ ks.length ≤ 4 ∧
  ∀ (ws : List Wr) v F1 H1, (∀ w ∈ ws, WrOk (ks.map (·.1)) w) → ws.length ≤ 4 → Gr [s, l] F H F1 H1 → Sg s F1 H1 → R K F1 v (.list (ws.map encW)) → Q v H1
abbrev sWk : Stmt := topS 14
theorem scWk : FnScope ["_law_state_here", "_law_kinds_here", "_law_taken", "_law_works_here", "_law_k", "_law_name", "_law_takes", "_law_j"] ["_law_state_here", "_law_kinds_here", "_law_taken"] (defScope sWk) := ⟨rfl, rfl, rfl, by decide +kernel, rfl, by decide +kernel, by decide +kernel⟩
def tWk (K : PySem.W.Frag) : TS :=
  (tSeq (tAsg (tLst tNil) (gName 3))
  (tSeq (tFor (iRng1 (tCons (tCall spDraw [] E0 (tCons (tVar 0) (tCons (tC (.int 5)) tNil))) tNil)) (gName 4) (tSeq (tAsg (tCall (spWord K) [] E0 (tCons (tVar 0) (tCons (tVar 2) tNil))) (gName 5))
  (tSeq (tDrop (tBM K "list" rAppend (tVar 2) (tCons (tVar 5) tNil)))
  (tSeq (tAsg (tLc (iRng1 (tCons (tCall spDraw [] E0 (tCons (tVar 0) (tCons (tC (.int 4)) tNil))) tNil)) (gName 7) tYes (tOp (rIxT K) (tOp (rIxL K) (tVar 1) (tCall spDraw [] E0 (tCons (tVar 0) (tCons (tCB (rLenOf K) (tCons (tVar 1) tNil)) tNil)))) (tC (.int 0))) [7]) (gName 6))
  (tDrop (tBM K "list" rAppend (tVar 3) (tCons (tTup (tCons (tVar 5) (tCons (tVar 6) (tCons (tOp (rIxT K) (tOp (rIxL K) (tVar 1) (tCall spDraw [] E0 (tCons (tVar 0) (tCons (tCB (rLenOf K) (tCons (tVar 1) tNil)) tNil)))) (tC (.int 0))) (tCons (tC .non) (tCons (tLst tNil) tNil)))))) tNil)))))))
  (tRet (tVar 3))))
section
variable {P : Program} {w : World} {K : PySem.W.Frag} {mg : Str → Option Value} {base : Heap}

/-- a drawn kind's name -/
theorem em_kind {s : Addr} {F H : Hp} {σ : L2.St} {i j : Nat} {v : V} {ks : List Kd} (hi : σ[i]? = some (some v)) (hj : σ[j]? = some (some (.ref s))) (r : R K F v (.list (ks.map encK))) (ok : KsOk ks) (h1 : 1 ≤ ks.length) (h4 : ks.length ≤ 4) :
    EM K s (tOp (rIxT K) (tOp (rIxL K) (tVar i) (tCall spDraw [] E0 (tCons (tVar j) (tCons (tCB (rLenOf K) (tCons (tVar i) tNil)) tNil)))) (tC (.int 0))) σ F (fun d => ∃ x, d = .str x ∧ x ∈ ks.map (·.1) ∧ So x) := by
  have lenS : ED K (tCB (rLenOf K) (tCons (tVar i) tNil)) σ F H (.int (ks.length : Nat)) := by
    have z := ed_cb (σ := σ) (ea_cons (ed_var hi r) ea_nil) (rc_lenL (F := F) (H := H))
    rw [List.length_map] at z
    exact z
  refine em_op (A := fun d => ∃ k ∈ ks, d = encK k) (em_op (em_of (H := H) (ed_var hi r) rfl (A := fun d => d = .list (ks.map encK))) (fun F2 s2 => em_draw (m := ks.length) (H := H) hj (lenS.up s2) h1 (by omega)) ?_) (fun F2 _ => em_of (H := H) ed_int rfl (A := fun d => d = .int 0)) ?_
  · rintro d e rfl ⟨r, rfl, hr⟩
    exact ⟨_, ⟨ks[r], List.getElem_mem hr, rfl⟩, fun F5 H5 => rr_ixL (atI_map (List.getElem?_eq_getElem hr))⟩
  · rintro d e ⟨k, hk, rfl⟩ rfl
    exact ⟨_, ⟨k.1, rfl, List.mem_map.mpr ⟨k, hk, rfl⟩, (ok k hk).1⟩, fun F5 H5 => rr_ixT (atI_nat (j := 0) rfl)⟩
theorem strs_of {P : Str → Prop} : ∀ ds : List PyData, (∀ d ∈ ds, ∃ x, d = .str x ∧ P x) → ∃ xs : List Str, ds = xs.map .str ∧ ∀ x ∈ xs, P x
  | [], _ => ⟨[], rfl, fun _ z => nomatch z⟩
  | d :: ds, h => by
    obtain ⟨x, rfl, hx⟩ := h d List.mem_cons_self
    obtain ⟨xs, rfl, hs⟩ := strs_of ds fun e he => h e (List.mem_cons_of_mem _ he)
    refine ⟨x :: xs, rfl, fun y hy => ?_⟩
    rcases List.mem_cons.mp hy with rfl | hy
    · exact hx
    · exact hs y hy
theorem pure_Wk (vs : List V) (H : Hp) (Q : VK) (E : XK) (h : spWorks K vs H Q E) : tWk K { nx := fun _ H' => Q .non H', rt := Q } (start ["_law_state_here", "_law_kinds_here", "_law_taken", "_law_works_here", "_law_k", "_law_name", "_law_takes", "_law_j"] vs) H := by
  obtain ⟨s, l, F, v1, ks, ts0, rfl, b0, ht0, r1, okk, h1, h4, q⟩ := h
  refine q_new b0 fun p3 H1 b1 o1 _ => ?_
  refine qm_forR (K := K) (em_draw (m := 5) (H := H1) rfl ed_int (by decide) (by decide)) b1.sg fun d F2 H2 g2 k2 a2 => ?_
  obtain ⟨n, rfl, hn⟩ := a2
  refine ⟨n, rfl, by omega, fun i σ H3 => ∃ (F3 : Hp) (ws : List Wr) (ts : List Str) (y4 y5 y6 : Option V), σ = [some (.ref s), some v1, some (.ref l), some (.ref p3), y4, y5, y6, none] ∧ Bs K s l F H F3 H3 ts ∧ Ol K s l H F3 H3 p3 (ws.map encW) ∧ Same F F3 ∧ ws.length = i ∧ ts.length ≤ 16 + i ∧ ∀ w ∈ ws, WrOk (ks.map (·.1)) w,
    ⟨F2, [], ts0, none, none, none, rfl, b1.st g2 k2, o1.st g2, g2.ff, rfl, by omega, fun w hw => nomatch hw⟩, ?_, ?_⟩
  · rintro i σ H3 hi ⟨F3, ws, ts, y4, y5, y6, rfl, b3, o3, s3, hw, ht, okw⟩
    refine q_word b3 rfl rfl (by omega) fun nm F4 H4 snm b4 s4 u4 => ?_
    have o4 := u4 _ _ o3
    refine q_take b4 rfl rfl snm (by omega) fun F5 H5 b5 s5 u5 => ?_
    have o5 := u5 _ _ o4
    have r5 := r1.at ((s3.trans s4).trans s5)
    refine qm_set (K := K) (em_lcR (N := 3) (A := fun d => ∃ x, d = .str x ∧ x ∈ ks.map (·.1) ∧ So x) (em_draw (m := 4) (H := H5) rfl ed_int (by decide) (by decide)) (fun d ⟨r, e, hr⟩ => ⟨r, e, by omega⟩) (by decide) (fun _ => rfl) fun i F6 s6 => em_kind (H := H5) rfl rfl (r5.at s6) okk h1 h4) b5.sg fun vt d F6 H6 g6 k6 a6 r6 => ?_
    obtain ⟨ds, rfl, hl, ha⟩ := a6
    obtain ⟨tk, rfl, otk⟩ := strs_of (P := fun x => x ∈ ks.map (·.1) ∧ So x) ds ha
    rw [List.length_map] at hl
    have b6 := b5.st g6 k6
    have o6 := o5.st g6
    refine ol_app b6 o6 rfl (em_tup (ems_cons (em_of (H := H6) (ed_var rfl (.str nm)) rfl (A := fun d => d = .str nm)) fun F7 s7 => ems_cons (em_of (H := H6) (ed_var rfl (r6.at s7)) rfl (A := fun d => d = .list (tk.map .str))) fun F8 s8 => ems_cons (em_kind (H := H6) rfl rfl ((r5.at g6.ff).at (s7.trans s8)) okk h1 h4) fun F9 s9 => ems_cons (em_of (H := H6) ed_non rfl (A := fun d => d = .none)) fun F10 s10 => ems_cons (em_of (H := H6) (ed_lst ea_nil (by simp)) rfl (A := fun d => d = .list [])) fun F11 s11 => ems_nil) fun l z => ?_) (by rw [List.length_map]; omega) fun d F7 H7 a7 b7 o7 s7 u7 => ?_
    · obtain ⟨_, _, rfl, _, _, _, rfl, _, _, _, rfl, _, _, _, rfl, _, _, _, rfl, _, rfl⟩ := z
      show 5 ≤ 100000
      decide
    · obtain ⟨_, rfl, _, _, rfl, rfl, _, _, rfl, rfl, _, _, rfl, ⟨gv, rfl, hg⟩, _, _, rfl, rfl, _, _, rfl, rfl, rfl⟩ := a7
      refine ⟨F7, ws ++ [(nm, tk, gv)], ts ++ [nm], _, _, _, rfl, b7, by rw [List.map_append]; exact o7, (((s3.trans s4).trans s5).trans g6.ff).trans s7, by rw [List.length_append]; show ws.length + 1 = i + 1; omega, by rw [List.length_append]; show ts.length + 1 ≤ _; omega, fun w hw => ?_⟩
      rcases List.mem_append.mp hw with hw | hw
      · exact okw w hw
      · rw [List.mem_singleton.mp hw]
        exact ⟨snm, hl, otk, hg⟩
  · rintro σ H3 ⟨F3, ws, ts, y4, y5, y6, rfl, b3, o3, s3, hw, ht, okw⟩
    obtain ⟨F4, b4, s4, r4, _⟩ := b3.freeze o3
    exact ⟨.ref p3, rfl, q ws (.ref p3) F4 H3 okw (by omega) b4.gr b4.sg r4⟩
theorem ok_Wk {f fD fW : Addr} {fd fdD fdW : FuncData} {k : Nat} (D : Df K mg "_law_works" sWk ["_law_state_here", "_law_kinds_here", "_law_taken"] f fd) (DD : Df K mg "_law_draw" sDr ["_law_state_here", "_law_many"] fD fdD) (DW : Df K mg "_law_word" sWo ["_law_state_here", "_law_others"] fW fdW) (GD : FnOk P w K mg base CX0 1 fD fdD ["_law_state_here", "_law_many"] spDraw) (GW : FnOk P w K mg base CX0 2 fW fdW ["_law_state_here", "_law_others"] (spWord K))
    (m_range : mg "range" = none) (m_len : mg "len" = none) : FnOk P w K mg base CX0 (k + 3) f fd ["_law_state_here", "_law_kinds_here", "_law_taken"] (spWorks K) := by
  refine D.F.ok scWk (fun vs H Q E h => ?_) (fun cdv A outer s H vs Q E hr h => ⟨tWk K, ?_, pure_Wk vs H Q E h⟩)
  · obtain ⟨s, l, F, v, ks, ts, rfl, _⟩ := h
    rfl
  · exact (pss_cons (ps_set (i := 3) scWk.nd rfl (Or.inl rfl) (pe_lst pa_nil))
    (pss_cons (ps_for PassesOwn.never (by rfl) (pi_range1 (by rfl) m_range (pa_cons (pe_call GD (hr.mono (by omega)) (by rfl) DD.g DD.F.kp DD.b .nil pass0 (pa_cons (pv 0) (pa_cons pe_int pa_nil))) pa_nil)) (pg_name (i := 4) scWk.nd rfl (Or.inl rfl)) (pss_cons (ps_set (i := 5) scWk.nd rfl (Or.inl rfl) (pe_call GW (hr.mono (by omega)) (by rfl) DW.g DW.F.kp DW.b .nil pass0 (pa_cons (pv 0) (pa_cons (pv 2) pa_nil))))
    (pss_cons (ps_expr (pe_bm PySem.F.plainAttrs_list PySem.F.slot_list_append PySem.F.type_list_append mt_append (pv 2) (pa_cons (pv 5) pa_nil)))
    (pss_cons (ps_setLc (i := 6) (own := [("_law_j", 7)]) (g := (gName 7)) (tt := tYes) (by rfl) scWk.nd rfl rfl (sw_true rfl rfl rfl (by decide +kernel)) (pi_range1 (by rfl) m_range (pa_cons (pe_call GD (hr.mono (by omega)) (by rfl) DD.g DD.F.kp DD.b .nil pass0 (pa_cons (pv 0) (pa_cons pe_int pa_nil))) pa_nil)) (blkOk_by (own := [("_law_j", 7)]) (N := ["_law_state_here", "_law_kinds_here", "_law_taken", "_law_works_here", "_law_k", "_law_name", "_law_takes", "_law_j"]) (sc := defScope sWk) (by decide +kernel)) (fun _ _ _ _ _ => (pg_name (i := 7) scWk.nd rfl (Or.inl rfl))) (fun _ _ _ _ _ => pts_nil) (fun _ _ _ _ _ => (pe_ix ix_tup (pe_ix ix_list (pv 1) (pe_call GD (hr.mono (by omega)) (by rfl) DD.g DD.F.kp DD.b .nil pass0 (pa_cons (pv 0) (pa_cons (pe_callB call_len_seq (by rfl) m_len (by decide +kernel) (pa_cons (pv 1) pa_nil)) pa_nil))) (fun _ _ => rfl)) pe_int (fun _ _ => rfl))))
    (pss_one (ps_expr (pe_bm PySem.F.plainAttrs_list PySem.F.slot_list_append PySem.F.type_list_append mt_append (pv 3) (pa_cons (pe_tup (pa_cons (pv 5) (pa_cons (pv 6) (pa_cons (pe_ix ix_tup (pe_ix ix_list (pv 1) (pe_call GD (hr.mono (by omega)) (by rfl) DD.g DD.F.kp DD.b .nil pass0 (pa_cons (pv 0) (pa_cons (pe_callB call_len_seq (by rfl) m_len (by decide +kernel) (pa_cons (pv 1) pa_nil)) pa_nil))) (fun _ _ => rfl)) pe_int (fun _ _ => rfl)) (pa_cons pe_non (pa_cons (pe_lst pa_nil) pa_nil)))))) pa_nil))))))))
    (pss_one (ps_ret (pv 3)))))
end
abbrev sGd : Stmt := topS 16
theorem scGd : FnScope ["_law_state_here", "_law_taken", "_law_kinds_here", "_law_works_here"] ["_law_state_here"] (defScope sGd) := ⟨rfl, rfl, rfl, by decide +kernel, rfl, by decide +kernel, by decide +kernel⟩
def tGd (K : PySem.W.Frag) : TS :=
  (tSeq (tAsg (tLst tNil) (gName 1))
  (tSeq (tAsg (tCall (spKinds K) [] E0 (tCons (tVar 0) (tCons (tVar 1) tNil))) (gName 2))
  (tSeq (tAsg (tCall (spWorks K) [] E0 (tCons (tVar 0) (tCons (tVar 2) (tCons (tVar 1) tNil)))) (gName 3))
  (tRet (tTup (tCons (tVar 2) (tCons (tVar 3) tNil)))))))
/-- a drawn ground -/
def spGround (K : PySem.W.Frag) : Sp := fun vs H Q _ => ∃ (s : Addr) (F : Hp), vs = [.ref s] ∧ Sg s F H ∧ ∀ (ks : List Kd) (ws : List Wr) v F1 H1, KsOk ks → 1 ≤ ks.length → ks.length ≤ 4 → (∀ w ∈ ws, WrOk (ks.map (·.1)) w) → ws.length ≤ 4 → Gr [s] F H F1 H1 → Sg s F1 H1 → R K F1 v (.tuple [.list (ks.map encK), .list (ws.map encW)]) → Q v H1
section
variable {P : Program} {w : World} {K : PySem.W.Frag} {mg : Str → Option Value} {base : Heap}
theorem pure_Gd (vs : List V) (H : Hp) (Q : VK) (E : XK) (h : spGround K vs H Q E) : tGd K { nx := fun _ H' => Q .non H', rt := Q } (start ["_law_state_here", "_law_taken", "_law_kinds_here", "_law_works_here"] vs) H := by
  obtain ⟨s, F, rfl, g, q⟩ := h
  refine ⟨Nat.zero_le _, fun l nl => ?_⟩
  have g1 : Gr [] F H F (upd H l (.lst [])) := (Gr.refl g.fh).newM nl
  have ne : l ≠ s := fun z => by
    obtain ⟨x, y, e⟩ := g.st
    rw [z, e] at nl
    cases nl
  have k1 := g.to g1
  have b1 : Bs K s l F (upd H l (.lst [])) F (upd H l (.lst [])) [] := ⟨Gr.refl k1.fh, k1, ⟨[], upd_same, same_none g.fh nl, .nil⟩, ne, fun _ z => nomatch z⟩
  refine ⟨.ref s, rfl, .ref l, rfl, s, l, F, rfl, b1, fun ks ts v F2 H2 okk h1 h4 ht b2 r2 => ?_⟩
  refine ⟨.ref s, rfl, v, rfl, .ref l, rfl, s, l, F2, v, ks, ts, rfl, ⟨Gr.refl b2.sg.fh, b2.sg, b2.li, b2.ne, b2.so⟩, ht, r2, okk, h1, h4, fun ws u F3 H3 okw hw g3 k3 r3 => ?_⟩
  have gg : Gr [s] F H F3 H3 := (Gr.w g1).trans (b2.gr.trM g3) fun x hx => by
    rcases List.mem_cons.mp hx with rfl | hx
    · exact .inl List.mem_cons_self
    · rw [List.mem_singleton.mp hx]
      exact .inr nl
  refine q_ret (ed_tup (ea_cons (ed_var rfl (r2.at g3.ff)) (ea_cons (ed_var rfl r3) ea_nil)) (by simp)) k3.fh fun z F4 H4 g4 r4 => ?_
  exact q ks ws z F4 H4 okk h1 h4 okw hw (gg.trM g4.w) (k3.to g4) r4
theorem ok_Gd {f fK fW : Addr} {fd fdK fdW : FuncData} {k : Nat} (D : Df K mg "_law_drawn_ground" sGd ["_law_state_here"] f fd) (DK : Df K mg "_law_kinds" sKi ["_law_state_here", "_law_taken"] fK fdK) (DWk : Df K mg "_law_works" sWk ["_law_state_here", "_law_kinds_here", "_law_taken"] fW fdW) (GK : FnOk P w K mg base CX0 3 fK fdK ["_law_state_here", "_law_taken"] (spKinds K)) (GWk : FnOk P w K mg base CX0 3 fW fdW ["_law_state_here", "_law_kinds_here", "_law_taken"] (spWorks K)) : FnOk P w K mg base CX0 (k + 4) f fd ["_law_state_here"] (spGround K) := by
  refine D.F.ok scGd (fun vs H Q E h => ?_) (fun cdv A outer s H vs Q E hr h => ⟨tGd K, ?_, pure_Gd vs H Q E h⟩)
  · obtain ⟨s, F, rfl, _⟩ := h
    rfl
  · exact (pss_cons (ps_set (i := 1) scGd.nd rfl (Or.inl rfl) (pe_lst pa_nil))
    (pss_cons (ps_set (i := 2) scGd.nd rfl (Or.inl rfl) (pe_call GK (hr.mono (by omega)) (by rfl) DK.g DK.F.kp DK.b .nil pass0 (pa_cons (pv 0) (pa_cons (pv 1) pa_nil))))
    (pss_cons (ps_set (i := 3) scGd.nd rfl (Or.inl rfl) (pe_call GWk (hr.mono (by omega)) (by rfl) DWk.g DWk.F.kp DWk.b .nil pass0 (pa_cons (pv 0) (pa_cons (pv 2) (pa_cons (pv 1) pa_nil)))))
    (pss_one (ps_ret (pe_tup (pa_cons (pv 2) (pa_cons (pv 3) pa_nil))))))))
end
end Wk
/-! evaluation at one heap; a dict of one's own; a lock. -/
namespace Wk
open PySem PySem.Spec PyProof.Rows L2 Ly Tm
section
variable {K : PySem.W.Frag} {s m p : Addr} {F H F1 H1 : Hp} {σ : L2.St} {te ta : TE} {tt : TT} {A B : PyData → Prop} {D : Ends} {tz tu : TS} {d : PyData} {b : Bool}
def ED0 (K : PySem.W.Frag) (te : TE) (σ : L2.St) (F H : Hp) (d : PyData) : Prop := ∀ Q : VK, (∀ v F2 H2, Gr [] F H F2 H2 → R K F2 v d → Q v H2) → te σ H Q
def EB0 (tt : TT) (σ : L2.St) (F H : Hp) (b : Bool) : Prop := ∀ Q : Bool → Hp → Prop, (∀ F2 H2, Gr [] F H F2 H2 → Q b H2) → tt σ H Q
def EM0 (K : PySem.W.Frag) (s : Addr) (te : TE) (σ : L2.St) (F H : Hp) (A : PyData → Prop) : Prop := ∀ Q : VK, (∀ v d F2 H2, Gr [s] F H F2 H2 → Sg s F2 H2 → A d → R K F2 v d → Q v H2) → te σ H Q
theorem _root_.Ly.ED.z (h : ED K te σ F H d) (sm : Same F H) : ED0 K te σ F H d := fun Q q => h.go sm q
theorem _root_.Ly.EB.z (h : EB tt σ F H b) (sm : Same F H) : EB0 tt σ F H b := fun Q q => h.go sm q
theorem _root_.Ly.EM.z (h : EM K s te σ F A) (g : Sg s F H) : EM0 K s te σ F H A := fun Q q => h.go g q
theorem MkM.turn0 {Dl : Addr} {n : Nat} (mk : MkM K s F H Dl A n H1) (hz : n < 100000) (he : ∀ F1, Gr [s] F H F1 H1 → Sg s F1 H1 → EM0 K s te σ F1 H1 A) : te σ H1 fun y H4 => ∃ acc, H4 Dl = some (.lst acc) ∧ acc.length < sizeLine ∧ MkM K s F H Dl A (n + 1) (upd H4 Dl (.lst (acc ++ [y]))) := by
  obtain ⟨F1, acc, ds, g, k, nd, h0, h1, h2, ra, hl, ha⟩ := mk
  refine he F1 g k _ fun v d F2 H2 g2 k2 a r => ?_
  have hD : Dl ∉ [s] := fun z => nd (List.mem_singleton.mp z)
  have hF : F2 Dl = none := g2.still h2 h1
  have g3 : Gr [s] F H F2 (upd H2 Dl (.lst (acc ++ [v]))) := (g.trM g2).put hF (.inr h0)
  obtain ⟨x, y, e⟩ := k2.st
  refine ⟨acc, g2.hh _ _ hD h1, by rw [ra.len]; exact Nat.lt_of_lt_of_le (by omega) (by decide : 100000 ≤ sizeLine), F2, acc ++ [v], ds ++ [d], g3, ⟨g3.fh, k2.fs, x, y, by rw [upd_ne (Ne.symm nd)]; exact e⟩, nd, h0, upd_same, hF, (ra.at g2.ff).app (.cons r .nil), by rw [List.length_append, hl]; rfl, fun z hz => ?_⟩
  rcases List.mem_append.mp hz with hz | hz
  · exact ha z hz
  · rw [List.mem_singleton.mp hz]
    exact a
/-- over a list of data, each element turning the state -/
theorem em0_lcL {α : Type} {xs : List α} {e : α → PyData} {j : Nat} {vs : List Nat} (k : Sg s F H) (h : ED0 K te σ F H (.list (xs.map e))) (hz : xs.length ≤ 1000) (hw : ∀ x, wipe ((wipe σ vs).set j (some x)) vs = wipe σ vs) (he : ∀ a x F1 H1, a ∈ xs → Gr [s] F H F1 H1 → Sg s F1 H1 → R K F1 x (e a) → EM0 K s ta ((wipe σ vs).set j (some x)) F1 H1 A) :
    EM0 K s (tLc (iList K te) (gName j) tYes ta vs) σ F H (fun d => ∃ ds, d = .list ds ∧ ds.length = xs.length ∧ ∀ x ∈ ds, A x) := fun Q q =>
  h _ fun v F2 H2 g2 r => by
    obtain ⟨a, ys, rfl, hs, ra⟩ := r.asLst
    have k2 := k.to g2
    refine ⟨a, rfl, ⟨ys, .inl (.inl (g2.fh _ _ hs))⟩, fun Dl nD => ?_⟩
    have hl : ys.length = xs.length := by rw [ra.len, List.length_map]
    refine lc_list (xs := ys) (fun i H3 => MkM K s F2 H2 Dl A i H3) (MkM.start k2 nD) (fun i H3 _ m => ?_) (fun i x H3 hx m => ⟨hw _, ?_⟩) fun H3 m => ?_
    · obtain ⟨F3, acc, ds, g3, _⟩ := m
      exact .inl (.inl (g3.fh _ _ (g3.ff _ _ hs)))
    · refine iteT (B := MkM K s F2 H2 Dl A (i + 1) H3) ?_
      obtain ⟨d, hd, rd⟩ := ra.back hx
      obtain ⟨z, hz2, rfl⟩ := get_map hd
      have hi : i < xs.length := (List.getElem?_eq_some_iff.mp hz2).1
      exact m.turn0 (by omega) fun F3 g3 k3 => he z x F3 H3 (List.mem_of_getElem? hz2) ((Gr.w g2).trM g3) k3 (rd.at g3.ff)
    · rw [hl] at m
      exact m.done fun v d F3 H4 g3 k3 a3 r3 => q v d F3 H4 ((Gr.w g2).trM g3) k3 a3 r3
/-- [f a for a in xs if p a], over any walk, looked at where it stands -/
theorem lc_pure0 {α : Type} {xs : List α} {pr : α → Bool} {f : α → PyData} {J : It} {G : Hp → Prop} {Y : Nat → Hp → V → Hp → Prop} {rel : α → V → Prop} {j : Nat} {vs : List Nat} {Dl : Addr} {Q : VK}
    (w : Walk J xs.length G Y) (hY : ∀ i H x H', Y i H x H' → H' = H ∧ ∃ a, xs[i]? = some a ∧ rel a x) (s : Same F H) (nD : H Dl = none) (hG : ∀ F3 H3, Gr [] F H F3 H3 → G H3) (hz : xs.length ≤ 50000) (hw : ∀ x, wipe ((wipe σ vs).set j (some x)) vs = wipe σ vs)
    (ht : ∀ a x F3 H3, a ∈ xs → rel a x → Gr [] F H F3 H3 → EB0 tt ((wipe σ vs).set j (some x)) F3 H3 (pr a))
    (he : ∀ a x F3 H3, a ∈ xs → pr a = true → rel a x → Gr [] F H F3 H3 → ED0 K te ((wipe σ vs).set j (some x)) F3 H3 (f a))
    (q : ∀ v F2 H2, Gr [] F H F2 H2 → R K F2 v (.list ((xs.filter pr).map f)) → Q v H2) :
    ∃ W : Nat → Nat → Hp → Prop, (∃ m, W 0 m (upd H Dl (.lst []))) ∧ ∀ i m H, W i m H →
      (J.stop i H ∧ Q (.ref Dl) H) ∨ (J.go i H ∧ ∃ Nx : Hp → Prop, (∀ H', Nx H' → ∃ m', m' < m ∧ W (i + 1) m' H') ∧ ∀ x H', J.yld i H x H' → (gName j) x (wipe σ vs) H' fun σ2 H2 => wipe σ2 vs = wipe σ vs ∧ tt σ2 H2 fun b H3 =>
        if b = true then te σ2 H3 fun y H4 => ∃ acc, H4 Dl = some (.lst acc) ∧ acc.length < sizeLine ∧ Nx (upd H4 Dl (.lst (acc ++ [y]))) else Nx H3) := by
  refine lc_it w (g := gName j) (fun i H3 => Mk K F H Dl (((xs.take i).filter pr).map f) H3) (Mk.start s nD) (fun i H3 _ m => ?_) (fun i x H3 H4 hi m y => ?_) fun H3 m => ?_
  · obtain ⟨F3, g3⟩ := m.gr
    exact hG F3 H3 g3
  · obtain ⟨rfl, a, ha, ra⟩ := hY i H3 x H4 y
    have hm := List.mem_of_getElem? ha
    have et : xs.take (i + 1) = xs.take i ++ [a] := by rw [List.take_succ, ha]; rfl
    refine ⟨hw x, ?_⟩
    rw [et, List.filter_append, List.map_append]
    obtain ⟨F5, acc, g5, h0, h1, h2, rc⟩ := m
    show tt _ H4 _
    refine ht a x F5 H4 hm ra g5 _ fun F6 H6 g6 => ?_
    have e1 := g6.hh _ _ (fun z => nomatch z) h1
    have e2 := g6.still h2 h1
    cases hp : pr a with
    | false =>
      rw [show [a].filter pr = [] by simp [hp]]
      refine iteF ⟨F6, acc, g5.tr g6, h0, e1, e2, ?_⟩
      rw [List.map_nil, List.append_nil]
      exact rc.at g6.ff
    | true =>
      rw [show [a].filter pr = [a] by simp [hp]]
      refine iteT (he a x F6 H6 hm hp ra (g5.tr g6) _ fun v F7 H7 g7 r7 => ?_)
      have hF : F7 Dl = none := g7.still e2 e1
      refine ⟨acc, g7.hh _ _ (fun z => nomatch z) e1, ?_, F7, acc ++ [v], ((g5.tr g6).tr g7).put hF (.inr h0), h0, upd_same, hF, ((rc.at g6.ff).at g7.ff).app (.cons r7 .nil)⟩
      rw [rc.len, List.length_map]
      have h1 := List.length_filter_le pr (xs.take i)
      rw [List.length_take] at h1
      exact Nat.lt_of_lt_of_le (show _ < 100000 by omega) (by decide)
  · rw [List.take_length] at m
    exact m.done q
/-! ### a dict of one's own -/
abbrev encE (tk : List Str) (kd : Str) : PyData := .tuple [.list (tk.map .str), .str kd]
def Dk (K : PySem.W.Frag) (F H : Hp) (m : Addr) (Ok : Str → List Str → Str → Prop) (n : Nat) : Prop := ∃ kvs : List (Key × V), H m = some (.dK kvs) ∧ F m = none ∧ kvs.length ≤ n ∧ ∀ p ∈ kvs, ∃ f tk kd, p.1 = Sum.inr f ∧ R K F p.2 (encE tk kd) ∧ Ok f tk kd
variable {Ok : Str → List Str → Str → Prop} {n : Nat}
theorem Dk.more {M : List Addr} (k : Dk K F H m Ok n) (g : Gr M F H F1 H1) (h : m ∉ M) : Dk K F1 H1 m Ok n := by
  obtain ⟨kvs, h1, h2, h3, h4⟩ := k
  refine ⟨kvs, g.hh _ _ h h1, g.still h2 h1, h3, fun p hp => ?_⟩
  obtain ⟨f, tk, kd, e, r, o⟩ := h4 p hp
  exact ⟨f, tk, kd, e, r.at g.ff, o⟩
theorem mem_putK {kvs : List (Key × V)} {k : Key} {v : V} {p : Key × V} (h : p ∈ putK kvs k v) : p = (k, v) ∨ p ∈ kvs := by
  unfold putK at h
  split at h
  · obtain ⟨q, hq, e⟩ := List.mem_map.mp h
    split at e
    · rename_i hk
      left
      rw [← e, hk]
    · right
      rw [← e]
      exact hq
  · rcases List.mem_append.mp h with h | h
    · exact .inr h
    · exact .inl (List.mem_singleton.mp h)
theorem len_putK (kvs : List (Key × V)) (k : Key) (v : V) : (putK kvs k v).length ≤ kvs.length + 1 := by
  unfold putK
  split
  · rw [List.length_map]; omega
  · rw [List.length_append]; exact Nat.le_refl _
/-- a key that is there -/
theorem valV_mem {kvs : List (Key × V)} {k : Key} {v : V} (h : (k, v) ∈ kvs) : ∃ u, valV kvs k = some u ∧ (k, u) ∈ kvs := by
  unfold valV
  cases e : kvs.find? fun kv => decide (kv.1 = k) with
  | none =>
    have z := List.find?_eq_none.mp e (k, v) h
    simp at z
  | some p =>
    have h1 := List.find?_some e
    have h2 := List.mem_of_find?_eq_some e
    have h3 : p.1 = k := of_decide_eq_true h1
    refine ⟨p.2, rfl, ?_⟩
    rw [← h3]
    exact h2
/-- behind a lock -/
theorem unlock {u x : HO} (hm : H m = some u) (fm : F m = none) (g : Gr [] F (upd H m x) F1 H1) : Gr [] F H F1 (upd H1 m u) := by
  have f1 : F1 m = none := g.still fm upd_same
  refine ⟨g.ff, fun b o e => ?_, fun b o hb e => ?_, fun b o e => ?_, fun b e => ?_⟩
  · rw [upd_ne (ne_some f1 e)]; exact g.fh b o e
  · by_cases c : b = m
    · subst c; rw [hm] at e; rw [upd_same]; exact e
    · rw [upd_ne c]
      exact g.hh b o hb (by rw [upd_ne c]; exact e)
  · rcases g.nw b o e with z | z
    · exact .inl z
    · exact .inr (upd_eq_none z)
  · exact upd_eq_none (g.dm b (upd_eq_none e))
/-! ### tests that turn the state -/
def EBM (s : Addr) (tt : TT) (σ : L2.St) (F H : Hp) (C : Bool → Prop) : Prop := ∀ Q : Bool → Hp → Prop, (∀ b F2 H2, Gr [s] F H F2 H2 → Sg s F2 H2 → C b → Q b H2) → tt σ H Q
theorem qm_when {C : Bool → Prop} (h : EBM s tt σ F H C) (h1 : ∀ F1 H1, C true → Gr [s] F H F1 H1 → Sg s F1 H1 → tu { D with nx := tz D } σ H1) (h2 : ∀ F1 H1, C false → Gr [s] F H F1 H1 → Sg s F1 H1 → tz D σ H1) : tSeq (tIfS tt tu tNext) tz D σ H := h _ fun b F1 H1 g k c => by
  cases b
  · exact iteF (h2 F1 H1 c g k)
  · exact iteT (h1 F1 H1 c g k)
/-- for a, b in xs, xs a list of pairs -/
theorem q_forL2 {α : Type} {xs : List α} {e1 e2 : α → PyData} {j1 j2 : Nat} {tb : TS} (h : ED K te σ F H (.list (xs.map fun a => .tuple [e1 a, e2 a]))) (sm : Same F H)
    (k : ∀ F1 H1, Gr [] F H F1 H1 → ∃ Pv : Nat → L2.St → Hp → Prop, Pv 0 σ H1 ∧ (∀ i σ2 H2, Pv i σ2 H2 → ∃ F2, Same F2 H2 ∧ Same F1 F2) ∧
      (∀ i a x y σ2 H2, xs[i]? = some a → R K F1 x (e1 a) → R K F1 y (e2 a) → Pv i σ2 H2 → tb { D with nx := Pv (i + 1), ct := Pv (i + 1), bk := tz D } ((σ2.set j1 (some x)).set j2 (some y)) H2) ∧ ∀ σ2 H2, Pv xs.length σ2 H2 → tz D σ2 H2) : tSeq (tFor (iList K te) (gTup K 2 (gCons (gName j1) (gCons (gName j2) gNil))) tb) tz D σ H := by
  refine h.go sm fun v F1 H1 g r => ?_
  obtain ⟨a, ys, rfl, hs, ra⟩ := r.asLst
  obtain ⟨Pv, p0, pk, ps, pd⟩ := k F1 H1 g
  have hl : ys.length = xs.length := by rw [ra.len, List.length_map]
  refine ⟨a, rfl, ⟨ys, .inl (.inl (g.fh _ _ hs))⟩, for_list (xs := ys) (D := { D with nx := tz D }) Pv p0 (fun i σ2 H2 _ p => ?_) (fun i x σ2 H2 hx p => ?_) fun σ2 H2 p => ?_⟩
  · obtain ⟨F2, s1, s2⟩ := pk i σ2 H2 p
    exact .inl (.inl (s1 _ _ (s2 _ _ hs)))
  · obtain ⟨d, hd, rd⟩ := ra.back hx
    obtain ⟨z, hz2, rfl⟩ := get_map hd
    obtain ⟨c, zs, rfl, hc, rc⟩ := rd.asTup
    obtain ⟨x1, x2, rfl, r1, r2⟩ := rc.two
    obtain ⟨F2, s1, s2⟩ := pk i σ2 H2 p
    exact ⟨c, [x1, x2], rfl, sqT_same s1 (sqT_same s2 hc), rfl, x1, [x2], rfl, x2, [], rfl, rfl, ps i z x1 x2 σ2 H2 hz2 r1 r2 p⟩
  · rw [hl] at p
    exact pd σ2 H2 p
end
end Wk
namespace Wk
open PySem PySem.Spec PyProof.Rows L2 Ly Tm
section
variable {K : PySem.W.Frag} {m : Addr} {F H F0 H0 F1 H1 : Hp} {σ : L2.St} {te ta tv ty : TE} {D : Ends} {tz : TS} {Ok : Str → List Str → Str → Prop} {n : Nat}
theorem Dk.mono (k : Dk K F H m Ok n) {n1 : Nat} (h : n ≤ n1) : Dk K F H m Ok n1 := by
  obtain ⟨kvs, h1, h2, h3, h4⟩ := k
  exact ⟨kvs, h1, h2, Nat.le_trans h3 h, h4⟩
/-- m[f] = (tk, kd) -/
theorem dk_put {i : Nat} {f kd : Str} {tk : List Str} (hi : σ[i]? = some (some (.ref m))) (hv : ED K tv σ F H (encE tk kd)) (hy : ED K ty σ F H (.str f)) (k : Dk K F H m Ok n) (g : Gr [] F0 H0 F H) (h0 : H0 m = none) (ok : Ok f tk kd) (hn : n < 1000)
    (kk : ∀ F1 H1, Gr [] F0 H0 F1 H1 → Same F F1 → Dk K F1 H1 m Ok (n + 1) → D.nx σ H1) : sDPut (tVar i) ty tv D σ H :=
  hv.go g.fh fun v F1 H1 g1 r1 => ⟨.ref m, hi, (hy.up g1.ff).go g1.fh fun y F2 H2 g2 r2 => by
    have g12 := g1.tr g2
    obtain ⟨kvs, h1, h2, h3, h4⟩ := k.more g12 fun z => nomatch z
    rw [r2.asStr]
    have g3 : Gr [] F0 H0 F2 (upd H2 m (.dK (putK kvs (.inr f) v))) := (g.tr g12).put h2 (.inr h0)
    refine ⟨m, _, rfl, DPut.k (k := .inr f) h1 (Nat.lt_of_lt_of_le (by omega : kvs.length < 1000) (by decide)), kk F2 _ g3 g12.ff ⟨_, upd_same, h2, ?_, fun p hp => ?_⟩⟩
    · have := len_putK kvs (.inr f) v
      omega
    · rcases mem_putK hp with rfl | hp
      · exact ⟨f, tk, kd, rfl, r1.at g2.ff, ok⟩
      · exact h4 p hp⟩
theorem s_forL2 {α : Type} {xs : List α} {e1 e2 : α → PyData} {j1 j2 : Nat} {tb : TS} (h : ED K te σ F H (.list (xs.map fun a => .tuple [e1 a, e2 a]))) (sm : Same F H)
    (k : ∀ F1 H1, Gr [] F H F1 H1 → ∃ Pv : Nat → L2.St → Hp → Prop, Pv 0 σ H1 ∧ (∀ i σ2 H2, Pv i σ2 H2 → ∃ F2, Same F2 H2 ∧ Same F1 F2) ∧
      (∀ i a x y σ2 H2, xs[i]? = some a → R K F1 x (e1 a) → R K F1 y (e2 a) → Pv i σ2 H2 → tb { D with nx := Pv (i + 1), ct := Pv (i + 1), bk := D.nx } ((σ2.set j1 (some x)).set j2 (some y)) H2) ∧ ∀ σ2 H2, Pv xs.length σ2 H2 → D.nx σ2 H2) : tFor (iList K te) (gTup K 2 (gCons (gName j1) (gCons (gName j2) gNil))) tb D σ H := by
  refine h.go sm fun v F1 H1 g r => ?_
  obtain ⟨a, ys, rfl, hs, ra⟩ := r.asLst
  obtain ⟨Pv, p0, pk, ps, pd⟩ := k F1 H1 g
  have hl : ys.length = xs.length := by rw [ra.len, List.length_map]
  refine ⟨a, rfl, ⟨ys, .inl (.inl (g.fh _ _ hs))⟩, for_list (xs := ys) (D := D) Pv p0 (fun i σ2 H2 _ p => ?_) (fun i x σ2 H2 hx p => ?_) fun σ2 H2 p => ?_⟩
  · obtain ⟨F2, s1, s2⟩ := pk i σ2 H2 p
    exact .inl (.inl (s1 _ _ (s2 _ _ hs)))
  · obtain ⟨d, hd, rd⟩ := ra.back hx
    obtain ⟨z, hz2, rfl⟩ := get_map hd
    obtain ⟨c, zs, rfl, hc, rc⟩ := rd.asTup
    obtain ⟨x1, x2, rfl, r1, r2⟩ := rc.two
    obtain ⟨F2, s1, s2⟩ := pk i σ2 H2 p
    exact ⟨c, [x1, x2], rfl, sqT_same s1 (sqT_same s2 hc), rfl, x1, [x2], rfl, x2, [], rfl, rfl, ps i z x1 x2 σ2 H2 hz2 r1 r2 p⟩
  · rw [hl] at p
    exact pd σ2 H2 p
end
abbrev sMk : Stmt := topS 15
theorem scMk : FnScope ["_law_kinds_here", "_law_works_here", "_law_makes_here", "_law_kind", "_law_makers", "_law_maker", "_law_takes", "_law_work"] ["_law_kinds_here", "_law_works_here"] (defScope sMk) := ⟨rfl, rfl, rfl, by decide +kernel, rfl, by decide +kernel, by decide +kernel⟩
def tMk (K : PySem.W.Frag) : TS :=
  (tSeq (tAsg tDNewK (gName 2))
  (tSeq (tFor (iList K (tVar 0)) (gTup K 2 (gCons (gName 3) (gCons (gName 4) gNil))) (tFor (iList K (tVar 4)) (gTup K 2 (gCons (gName 5) (gCons (gName 6) gNil))) (sDPut (tVar 2) (tVar 5) (tTup (tCons (tVar 6) (tCons (tVar 3) tNil))))))
  (tSeq (tFor (iList K (tVar 1)) (gName 7) (sDPut (tVar 2) (tOp (rIxT K) (tVar 7) (tC (.int 0))) (tTup (tCons (tOp (rIxT K) (tVar 7) (tC (.int 1))) (tCons (tOp (rIxT K) (tVar 7) (tC (.int 2))) tNil)))))
  (tRet (tVar 2)))))
def EnOk (ks : List Str) (f : Str) (tk : List Str) (kd : Str) : Prop := So f ∧ tk.length ≤ 3 ∧ (∀ t ∈ tk, t ∈ ks ∧ So t) ∧ kd ∈ ks ∧ So kd
def spMakes (K : PySem.W.Frag) : Sp := fun vs H Q _ => ∃ (F : Hp) (v0 v1 : V) (ks : List Kd) (ws : List Wr), vs = [v0, v1] ∧ Same F H ∧ R K F v0 (.list (ks.map encK)) ∧ R K F v1 (.list (ws.map encW)) ∧ KsOk ks ∧ ks.length ≤ 4 ∧ (∀ w ∈ ws, WrOk (ks.map (·.1)) w) ∧ ws.length ≤ 4 ∧
  ∀ m F1 H1, Gr [] F H F1 H1 → H m = none → Dk K F1 H1 m (EnOk (ks.map (·.1))) 100 → Q (.ref m) H1
section
variable {P : Program} {w : World} {K : PySem.W.Frag} {mg : Str → Option Value} {base : Heap}
theorem pure_Mk (vs : List V) (H : Hp) (Q : VK) (E : XK) (h : spMakes K vs H Q E) : tMk K { nx := fun _ H' => Q .non H', rt := Q } (start ["_law_kinds_here", "_law_works_here", "_law_makes_here", "_law_kind", "_law_makers", "_law_maker", "_law_takes", "_law_work"] vs) H := by
  obtain ⟨F, v0, v1, ks, ws, rfl, sm, r0, r1, okk, hk, okw, hw, q⟩ := h
  refine fun m nm => ?_
  have g1 : Gr [] F H F (upd H m (.dK [])) := (Gr.refl sm).newM nm
  have k1 : Dk K F (upd H m (.dK [])) m (EnOk (ks.map (·.1))) 0 := ⟨[], upd_same, same_none sm nm, Nat.le_refl _, fun _ z => nomatch z⟩
  refine q_forL2 (xs := ks) (e1 := fun k => .str k.1) (e2 := fun k => .list (k.2.map encM)) (ed_var rfl r0) g1.fh fun F1 H1 g2 => ?_
  have h1 := (g1.tr g2)
  refine ⟨fun i σ2 H2 => ∃ F2 y3 y4 y5 y6, σ2 = [some v0, some v1, some (.ref m), y3, y4, y5, y6, none] ∧ Gr [] F H F2 H2 ∧ Same F1 F2 ∧ Dk K F2 H2 m (EnOk (ks.map (·.1))) (3 * i), ⟨F1, none, none, none, none, rfl, h1, Same.refl _, k1.more g2 fun z => nomatch z⟩, ?_, ?_, ?_⟩
  · rintro i σ2 H2 ⟨F2, y3, y4, y5, y6, rfl, g3, s3, k3⟩
    exact ⟨F2, g3.fh, s3⟩
  · rintro i k x y σ2 H2 hi rx ry ⟨F2, y3, y4, y5, y6, rfl, g3, s3, k3⟩
    have hm := List.mem_of_getElem? hi
    have hil := (List.getElem?_eq_some_iff.mp hi).1
    obtain ⟨sk, lk, mk⟩ := okk k hm
    refine s_forL2 (xs := k.2) (e1 := fun m => .str m.1) (e2 := fun m => .list (m.2.map .str)) (ed_var rfl (ry.at s3)) g3.fh fun F4 H4 g4 => ?_
    refine ⟨fun j σ5 H5 => ∃ F5 y5 y6, σ5 = [some v0, some v1, some (.ref m), some x, some y, y5, y6, none] ∧ Gr [] F H F5 H5 ∧ Same F4 F5 ∧ Dk K F5 H5 m (EnOk (ks.map (·.1))) (3 * i + j), ⟨F4, y5, y6, rfl, g3.tr g4, Same.refl _, k3.more g4 fun z => nomatch z⟩, ?_, ?_, ?_⟩
    · rintro j σ5 H5 ⟨F5, y5, y6, rfl, g5, s5, k5⟩
      exact ⟨F5, g5.fh, s5⟩
    · rintro j mk1 x1 y1 σ5 H5 hj rx1 ry1 ⟨F5, y5, y6, rfl, g5, s5, k5⟩
      have hmj := List.mem_of_getElem? hj
      have hjl := (List.getElem?_eq_some_iff.mp hj).1
      obtain ⟨a1, a2, a3⟩ := mk mk1 hmj
      refine dk_put (F0 := F) (H0 := H) (i := 2) (f := mk1.1) (tk := mk1.2) (kd := k.1) rfl (ed_tup (ea_cons (ed_var rfl (ry1.at s5)) (ea_cons (ed_var rfl (((rx.at s3).at g4.ff).at s5)) ea_nil)) (by simp)) (ed_var rfl (rx1.at s5)) k5 g5 nm ⟨a1, by omega, a3, List.mem_map.mpr ⟨k, hm, rfl⟩, sk⟩ (by omega) fun F6 H6 g6 s6 k6 => ?_
      exact ⟨F6, _, _, rfl, g6, s5.trans s6, k6⟩
    · rintro σ5 H5 ⟨F5, y5, y6, rfl, g5, s5, k5⟩
      exact ⟨F5, _, _, _, _, rfl, g5, (s3.trans g4.ff).trans s5, k5.mono (by omega)⟩
  · rintro σ2 H2 ⟨F2, y3, y4, y5, y6, rfl, g3, s3, k3⟩
    refine q_forL (ed_var rfl (r1.at (h1.ff.trans s3))) g3.fh fun F4 H4 g4 => ?_
    refine ⟨fun i σ5 H5 => ∃ F5 y7, σ5 = [some v0, some v1, some (.ref m), y3, y4, y5, y6, y7] ∧ Gr [] F H F5 H5 ∧ Same F4 F5 ∧ Dk K F5 H5 m (EnOk (ks.map (·.1))) (3 * ks.length + i), ⟨F4, none, rfl, g3.tr g4, Same.refl _, k3.more g4 fun z => nomatch z⟩, ?_, ?_, ?_⟩
    · rintro i σ5 H5 ⟨F5, y7, rfl, g5, s5, k5⟩
      exact ⟨F5, g5.fh, s5⟩
    · rintro i x d σ5 H5 hi rx ⟨F5, y7, rfl, g5, s5, k5⟩
      obtain ⟨w, hw2, rfl⟩ := get_map hi
      have hm := List.mem_of_getElem? hw2
      have hil := (List.getElem?_eq_some_iff.mp hw2).1
      obtain ⟨a1, a2, a3, a4, a5⟩ := okw w hm
      refine dk_put (F0 := F) (H0 := H) (i := 2) (f := w.1) (tk := w.2.1) (kd := w.2.2) rfl (ed_tup (ea_cons (ed_op (ed_var rfl (rx.at s5)) ed_int (rr_ixT (atI_nat (j := 1) rfl))) (ea_cons (ed_op (ed_var rfl (rx.at s5)) ed_int (rr_ixT (atI_nat (j := 2) rfl))) ea_nil)) (by simp)) (ed_op (ed_var rfl (rx.at s5)) ed_int (rr_ixT (atI_nat (j := 0) rfl))) k5 g5 nm ⟨a1, a2, a3, a4, a5⟩ (by omega) fun F6 H6 g6 s6 k6 => ?_
      exact ⟨F6, _, rfl, g6, s5.trans s6, k6⟩
    · rintro σ5 H5 ⟨F5, y7, rfl, g5, s5, k5⟩
      rw [List.length_map] at k5
      exact ⟨.ref m, rfl, q m F5 H5 g5 nm (k5.mono (by omega))⟩
theorem ok_Mk {f : Addr} {fd : FuncData} {k : Nat} (D : Df K mg "_law_makes" sMk ["_law_kinds_here", "_law_works_here"] f fd) : FnOk P w K mg base CX0 (k + 1) f fd ["_law_kinds_here", "_law_works_here"] (spMakes K) := by
  refine D.F.ok scMk (fun vs H Q E h => ?_) (fun cdv A outer s H vs Q E hr h => ⟨tMk K, ?_, pure_Mk vs H Q E h⟩)
  · obtain ⟨F, v0, v1, ks, ws, rfl, _⟩ := h
    rfl
  · exact (pss_cons (ps_set (i := 2) scMk.nd rfl (Or.inl rfl) pe_dnewK)
    (pss_cons (ps_for PassesOwn.never (by rfl) (pi_list (pv 0)) (pg_tup (by rfl) (pgs_cons (pg_name (i := 3) scMk.nd rfl (Or.inl rfl)) (pgs_cons (pg_name (i := 4) scMk.nd rfl (Or.inl rfl)) pgs_nil))) (pss_one (ps_for PassesOwn.never (by rfl) (pi_list (pv 4)) (pg_tup (by rfl) (pgs_cons (pg_name (i := 5) scMk.nd rfl (Or.inl rfl)) (pgs_cons (pg_name (i := 6) scMk.nd rfl (Or.inl rfl)) pgs_nil))) (pss_one (ps_dput (hu_of hr) (pv 2) (pv 5) (pe_tup (pa_cons (pv 6) (pa_cons (pv 3) pa_nil))) rfl)))))
    (pss_cons (ps_for PassesOwn.never (by rfl) (pi_list (pv 1)) (pg_name (i := 7) scMk.nd rfl (Or.inl rfl)) (pss_one (ps_dput (hu_of hr) (pv 2) (pe_ix ix_tup (pv 7) pe_int (fun _ _ => rfl)) (pe_tup (pa_cons (pe_ix ix_tup (pv 7) pe_int (fun _ _ => rfl)) (pa_cons (pe_ix ix_tup (pv 7) pe_int (fun _ _ => rfl)) pa_nil))) rfl)))
    (pss_one (ps_ret (pv 2))))))
end
end Wk
namespace Wk
open PySem PySem.Spec PyProof.Rows L2 Ly Tm
/-! ### drawn terms, plainly -/
theorem cls_of {m : Nat} : ∀ {ts : List Th}, (∀ t ∈ ts, Cl m t) → Cls m ts
  | [], _ => .nil
  | t :: ts, h => .cons (h t List.mem_cons_self) (cls_of fun u hu => h u (List.mem_cons_of_mem _ hu))
theorem tcs_of : ∀ {ts : List Th}, (∀ t ∈ ts, Tc t) → Tcs ts
  | [], _ => .nil
  | t :: ts, h => .cons (h t List.mem_cons_self) (tcs_of fun u hu => h u (List.mem_cons_of_mem _ hu))
theorem nos_of {z : Str} : ∀ {ts : List Th}, (∀ t ∈ ts, No z t) → Nos z ts
  | [], _ => .nil
  | t :: ts, h => .cons (h t List.mem_cons_self) (nos_of fun u hu => h u (List.mem_cons_of_mem _ hu))
theorem mem_namess {p : List Str} : ∀ {ts : List Th}, p ∈ namess ts → ∃ t ∈ ts, p ∈ names t
  | t :: ts, h => by
    rw [namess] at h
    rcases List.mem_append.mp h with h | h
    · exact ⟨t, List.mem_cons_self, h⟩
    · obtain ⟨u, hu, hp⟩ := mem_namess h
      exact ⟨u, List.mem_cons_of_mem _ hu, hp⟩
theorem wts_le {B : Nat} : ∀ {ts : List Th}, (∀ t ∈ ts, wt t ≤ B) → wts ts ≤ ts.length * B
  | [], _ => by simp [wts]
  | t :: ts, h => by
    rw [wts, List.length_cons, Nat.succ_mul]
    have h1 := h t List.mem_cons_self
    have h2 := wts_le fun u hu => h u (List.mem_cons_of_mem _ hu)
    omega
structure TmOk (n : Nat) (kn xs : List Str) (c : Nat) (t : Th) : Prop where
  ok : Ok false (n + 1) t
  cl : Cl c t
  tc : c = 0 → Tc t
  nm : ∀ p ∈ names t, ∃ x k, x ∈ xs ∧ k ∈ kn ∧ So x ∧ So k ∧ p = [x, k]
  no : ∀ z, z ∉ xs → No z t
  wt : wt t ≤ 3 ^ n
theorem pow_pos3 (n : Nat) : 1 ≤ 3 ^ n := Nat.one_le_pow _ _ (by decide)
theorem TmOk.name {n : Nat} {kn xs : List Str} {c : Nat} {x k : Str} (hx : x ∈ xs) (hk : k ∈ kn) (sx : So x) (sk : So k) : TmOk n kn xs c (.lf (.name x k)) :=
  ⟨.lf ⟨sx, sk⟩ trivial, .name x k, fun _ => .name x k, fun p hp => ⟨x, k, hx, hk, sx, sk, List.mem_singleton.mp hp⟩, fun z hz => .name fun e => hz (e ▸ hx), pow_pos3 n⟩
theorem TmOk.bound {n : Nat} {kn xs : List Str} {c i : Nat} (h : i < c) : TmOk n kn xs c (.lf (.bound i)) :=
  ⟨.lf trivial rfl, .bound h, fun e => absurd h (by omega), fun p hp => (nomatch hp), fun z _ => .bound, pow_pos3 n⟩
theorem TmOk.made {n : Nat} {kn xs : List Str} {c : Nat} {f : Str} {ts : List Th} (sf : So f) (hl : ts.length ≤ 3) (h : ∀ t ∈ ts, TmOk n kn xs c t) : TmOk (n + 1) kn xs c (.made f ts) := by
  refine ⟨.made sf (by omega) (Oks.of fun t ht => (h t ht).ok), .made (cls_of fun t ht => (h t ht).cl), fun e => .made (tcs_of fun t ht => (h t ht).tc e), fun p hp => ?_, fun z hz => .made (nos_of fun t ht => (h t ht).no z hz), ?_⟩
  · obtain ⟨t, ht, hp⟩ := mem_namess (show p ∈ namess ts from hp)
    exact (h t ht).nm p hp
  · have h1 := wts_le fun t ht => (h t ht).wt
    have h2 : ts.length * 3 ^ n ≤ 3 * 3 ^ n := Nat.mul_le_mul_right _ hl
    rw [Nat.pow_succ]
    show wts ts ≤ _
    omega
theorem things_of {P : Th → Prop} : ∀ ds : List PyData, (∀ d ∈ ds, ∃ t, d = enc t ∧ P t) → ∃ ts : List Th, ds = encs ts ∧ ts.length = ds.length ∧ ∀ t ∈ ts, P t
  | [], _ => ⟨[], rfl, rfl, fun _ z => nomatch z⟩
  | d :: ds, h => by
    obtain ⟨x, rfl, hx⟩ := h d List.mem_cons_self
    obtain ⟨xs, rfl, hl, hs⟩ := things_of ds fun e he => h e (List.mem_cons_of_mem _ he)
    refine ⟨x :: xs, rfl, by rw [List.length_cons, hl]; rfl, fun y hy => ?_⟩
    rcases List.mem_cons.mp hy with rfl | hy
    · exact hx
    · exact hs y hy
section
variable {K : PySem.W.Frag} {s m : Addr} {F H F0 H0 F1 H1 : Hp} {σ : L2.St} {te ta tb : TE} {tt tu : TT} {D : Ends} {tz : TS} {OkE : Str → List Str → Str → Prop} {n : Nat} {d e : PyData}
/-- what stands at each key -/
theorem Dk.pick (k : Dk K F H m OkE n) : ∃ (kvs : List (Key × V)) (g : Key × V → Str × List Str × Str × V), H m = some (.dK kvs) ∧ F m = none ∧ kvs.length ≤ n ∧ ∀ p ∈ kvs, p.1 = .inr (g p).1 ∧ valV kvs p.1 = some (g p).2.2.2 ∧ R K F (g p).2.2.2 (encE (g p).2.1 (g p).2.2.1) ∧ OkE (g p).1 (g p).2.1 (g p).2.2.1 := by
  obtain ⟨kvs, h1, h2, h3, h4⟩ := k
  have z : ∀ p : Key × V, ∃ y : Str × List Str × Str × V, p ∈ kvs → p.1 = .inr y.1 ∧ valV kvs p.1 = some y.2.2.2 ∧ R K F y.2.2.2 (encE y.2.1 y.2.2.1) ∧ OkE y.1 y.2.1 y.2.2.1 := fun p => by
    by_cases hp : p ∈ kvs
    · obtain ⟨u, e, hu⟩ := valV_mem (k := p.1) (v := p.2) hp
      obtain ⟨f, tk, kd, e1, r, o⟩ := h4 (p.1, u) hu
      exact ⟨(f, tk, kd, u), fun _ => ⟨e1, e, r, o⟩⟩
    · exact ⟨("", [], "", .non), fun h => absurd h hp⟩
  obtain ⟨g, hg⟩ := Classical.axiomOfChoice z
  exact ⟨kvs, g, h1, h2, h3, fun p hp => hg p hp⟩
theorem ed0_dget {i j : Nat} {y u : V} (hi : σ[i]? = some (some (.ref m))) (hj : σ[j]? = some (some y)) (g : DGet H m y (some u)) (r : R K F u d) (sm : Same F H) : ED0 K (tDGet (tVar i) (tVar j)) σ F H d := fun Q q =>
  ⟨.ref m, hi, y, hj, m, u, rfl, g, q u F H (Gr.refl sm) r⟩
theorem ed0_op {r : R2} {f : PyData} (ha : ED0 K ta σ F H d) (hb : ED K tb σ F H e) (hr : ∀ F1 H1, RR K r F1 H1 d e f) : ED0 K (tOp r ta tb) σ F H f := fun Q q =>
  ha _ fun v F1 H1 g1 r1 => (hb.up g1.ff).go g1.fh fun u F2 H2 g2 r2 => hr F2 H2 F2 H2 (.refl g2.fh) v u (r1.at g2.ff) r2 Q fun z F3 H3 g3 r3 => q z F3 H3 ((g1.tr g2).tr g3) r3
theorem eb0_test {b : Bool} (h : ED0 K te σ F H (.bool b)) : EB0 (tTest te) σ F H b := fun Q q => h _ fun v F2 H2 g2 r => ⟨b, r.asBl, q F2 H2 g2⟩
theorem ebm_test {C : Bool → Prop} (h : EM K s te σ F (fun d => ∃ b, d = .bool b ∧ C b)) (k : Sg s F H) : EBM s (tTest te) σ F H C := fun Q q => h.go k fun v d F2 H2 g2 k2 a r => by
  obtain ⟨b, rfl, c⟩ := a
  exact ⟨b, r.asBl, q b F2 H2 g2 k2 c⟩
theorem ebm_and {a : Bool} {C : Bool → Prop} (h1 : EB tt σ F H a) (k : Sg s F H) (h2 : a = true → ∀ F1 H1, Gr [] F H F1 H1 → Sg s F1 H1 → EBM s tu σ F1 H1 C) : EBM s (tAnd tt tu) σ F H (fun b => b = true → a = true ∧ C true) := fun Q q => h1.go k.fh fun F1 H1 g => by
  cases a
  · exact iteF (q false F1 H1 g.w (k.to g) fun z => nomatch z)
  · exact iteT (h2 rfl F1 H1 g (k.to g) _ fun b F2 H2 g2 k2 c => q b F2 H2 (g.w.trM g2) k2 fun e => ⟨rfl, e ▸ c⟩)
theorem qm0_set {A : PyData → Prop} {i : Nat} (h : EM0 K s te σ F H A) (k : ∀ v d F1 H1, Gr [s] F H F1 H1 → Sg s F1 H1 → A d → R K F1 v d → tz D (σ.set i (some v)) H1) : tSeq (tAsg te (gName i)) tz D σ H := h _ k
/-- x = [f(k) for k in m if p(k)], m a dict -/
theorem q_keys {ta : TE} {i j i0 : Nat} {vs : List Nat} {kvs : List (Key × V)} {pr : Key × V → Bool} {f : Key × V → PyData} (hi : σ[i]? = some (some (.ref m))) (hm : H m = some (.dK kvs)) (fm : F m = none) (sm : Same F H) (hl : kvs.length ≤ 50000) (hw : ∀ x, wipe ((wipe σ vs).set j (some x)) vs = wipe σ vs)
    (ht : ∀ a F3 H3 od, a ∈ kvs → Same F F3 → Same F3 H3 → H3 m = some (.frz od (.dK kvs)) → EB0 tt ((wipe σ vs).set j (some (kV a.1))) F3 H3 (pr a))
    (he : ∀ a F3 H3 od, a ∈ kvs → Same F F3 → Same F3 H3 → H3 m = some (.frz od (.dK kvs)) → ED0 K ta ((wipe σ vs).set j (some (kV a.1))) F3 H3 (f a))
    (q : ∀ v F3 H4, Gr [] F H F3 H4 → H4 m = some (.dK kvs) → R K F3 v (.list ((kvs.filter pr).map f)) → tz D (σ.set i0 (some v)) H4) : tSeq (tLock (tAsg (tLc (iKeys (tVar i)) (gName j) tt ta vs) (gName i0))) tz D σ H :=
  ⟨m, .dK kvs, hm, trivial, fun od => ⟨.ref m, hi, m, od, rfl, .inl ⟨kvs, upd_same, fun Dl nD => by
    have smL : Same F (upd H m (.frz od (.dK kvs))) := fun b o e => by rw [upd_ne (ne_some fm e)]; exact sm b o e
    refine lc_pure0 (K := K) (σ := σ) (vs := vs) (j := j) (tt := tt) (te := ta) (F := F) (xs := kvs) (pr := pr) (f := f) (rel := fun a x => x = kV a.1) (Q := fun v H' => H' m = some (.frz od (.dK kvs)) ∧ tz D (σ.set i0 (some v)) (upd H' m (.dK kvs))) walk_keys (fun i H x H' y => ⟨y.1, ?_⟩) smL nD (fun F3 H3 g3 => g3.hh _ _ (fun z => nomatch z) upd_same) hl hw (fun a x F3 H3 ha rx g3 => ?_) (fun a x F3 H3 ha hp rx g3 => ?_) fun v7 F3 H3 g3 r7 => ?_
    · obtain ⟨_, k, v, e1, e2⟩ := y
      exact ⟨(k, v), e1, e2⟩
    · subst rx
      exact ht a F3 H3 od ha g3.ff g3.fh (g3.hh _ _ (fun z => nomatch z) upd_same)
    · subst rx
      exact he a F3 H3 od ha g3.ff g3.fh (g3.hh _ _ (fun z => nomatch z) upd_same)
    · exact ⟨g3.hh _ _ (fun z => nomatch z) upd_same, q v7 F3 _ (unlock hm fm g3) upd_same r7⟩⟩⟩⟩
/-- xs[draw(state, len(xs))] -/
theorem em_pick {H : Hp} {i j : Nat} {v : V} {α : Type} {xs : List α} {f : α → PyData} (hi : σ[i]? = some (some v)) (hj : σ[j]? = some (some (.ref s))) (r : R K F v (.list (xs.map f))) (h1 : 1 ≤ xs.length) (h4 : xs.length ≤ 1000) :
    EM K s (tOp (rIxL K) (tVar i) (tCall spDraw [] E0 (tCons (tVar j) (tCons (tCB (rLenOf K) (tCons (tVar i) tNil)) tNil)))) σ F (fun d => ∃ x ∈ xs, d = f x) := by
  have lenS : ED K (tCB (rLenOf K) (tCons (tVar i) tNil)) σ F H (.int (xs.length : Nat)) := by
    have z := ed_cb (σ := σ) (ea_cons (ed_var hi r) ea_nil) (rc_lenL (F := F) (H := H))
    rw [List.length_map] at z
    exact z
  refine em_op (em_of (H := H) (ed_var hi r) rfl (A := fun d => d = .list (xs.map f))) (fun F2 s2 => em_draw (m := xs.length) (H := H) hj (lenS.up s2) h1 h4) ?_
  rintro d e rfl ⟨r, rfl, hr⟩
  exact ⟨_, ⟨xs[r], List.getElem_mem hr, rfl⟩, fun F5 H5 => rr_ixL (atI_map (List.getElem?_eq_getElem hr))⟩
end
abbrev sTm : Stmt := topS 17
theorem scTm : FnScope ["_law_state_here", "_law_makes_here", "_law_kind", "_law_names", "_law_around", "_law_deep", "_law_leaves", "_law_made", "_law_f", "_law_parts", "_law_k", "_law_x", "_law_one"] ["_law_state_here", "_law_makes_here", "_law_kind", "_law_names", "_law_around", "_law_deep"] (defScope sTm) := ⟨rfl, rfl, rfl, by decide +kernel, rfl, by decide +kernel, by decide +kernel⟩
def tTm (K : PySem.W.Frag) (sp : Sp) : TS :=
  (tSeq (tAsg (tLc (iRng1 (tCons (tCB (rLenOf K) (tCons (tVar 4) tNil)) tNil)) (gName 10) (tTest (tOp rEq (tOp (rIxL K) (tVar 4) (tVar 10)) (tVar 2))) (tTup (tCons (tC (.str "bound")) (tCons (tVar 10) tNil))) [10]) (gName 6))
  (tSeq (tAsg (tOp rCat (tVar 6) (tLc (iList K (tVar 3)) (gName 11) tYes (tTup (tCons (tC (.str "name")) (tCons (tVar 11) (tCons (tVar 2) tNil)))) [11])) (gName 6))
  (tSeq (tLock (tAsg (tLc (iKeys (tVar 1)) (gName 8) (tTest (tOp rEq (tOp (rIxT K) (tDGet (tVar 1) (tVar 8)) (tC (.int 1))) (tVar 2))) (tVar 8) [8]) (gName 7)))
  (tSeq (tIfS (tAnd (tTest (tOp (rNeD K) (tVar 7) (tLst tNil))) (tAnd (tTest (tOp (rI0 fun i j => .bl (decide (j < i))) (tVar 5) (tC (.int 0)))) (tTest (tOp (rI0 fun i j => .bl (decide (j < i))) (tCall spDraw [] E0 (tCons (tVar 0) (tCons (tC (.int 3)) tNil))) (tC (.int 0)))))) (tSeq (tAsg (tOp (rIxL K) (tVar 7) (tCall spDraw [] E0 (tCons (tVar 0) (tCons (tCB (rLenOf K) (tCons (tVar 7) tNil)) tNil)))) (gName 8))
  (tSeq (tAsg (tLc (iList K (tOp (rIxT K) (tDGet (tVar 1) (tVar 8)) (tC (.int 0)))) (gName 12) tYes (tCall sp [] E0 (tCons (tVar 0) (tCons (tVar 1) (tCons (tVar 12) (tCons (tVar 3) (tCons (tVar 4) (tCons (tOp (rI0 fun i j => .int (i - j)) (tVar 5) (tC (.int 1))) tNil))))))) [12]) (gName 9))
  (tRet (tTup (tCons (tC (.str "made")) (tCons (tVar 8) (tCons (tCB (rTupOf K) (tCons (tVar 9) tNil)) tNil))))))) tNext)
  (tRet (tOp (rIxL K) (tVar 6) (tCall spDraw [] E0 (tCons (tVar 0) (tCons (tCB (rLenOf K) (tCons (tVar 6) tNil)) tNil)))))))))
def spTerm (K : PySem.W.Frag) (n : Nat) : Sp := fun vs H Q _ => ∃ (s m : Addr) (F : Hp) (kn xs ar : List Str) (kd : Str) (v3 v4 : V) (j : Nat), vs = [.ref s, .ref m, .str kd, v3, v4, .int j] ∧ j < n ∧ Sg s F H ∧ Dk K F H m (EnOk kn) 100 ∧ kd ∈ kn ∧ So kd ∧ R K F v3 (.list (xs.map .str)) ∧ 1 ≤ xs.length ∧ xs.length ≤ 10 ∧ (∀ x ∈ xs, So x) ∧ R K F v4 (.list (ar.map .str)) ∧ ar.length ≤ 10 ∧
  ∀ t v F1 H1, TmOk j kn xs ar.length t → Gr [s] F H F1 H1 → Sg s F1 H1 → R K F1 v (enc t) → Q v H1
section
variable {P : Program} {w : World} {K : PySem.W.Frag} {mg : Str → Option Value} {base : Heap}
theorem Dk.ne {s m : Addr} {F H : Hp} {OkE : Str → List Str → Str → Prop} {n : Nat} (k : Dk K F H m OkE n) (g : Sg s F H) : m ≠ s := fun e => by
  obtain ⟨kvs, h1, _⟩ := k
  obtain ⟨a, b, h2⟩ := g.st
  rw [e, h2] at h1
  cases h1
theorem pure_Tm {n : Nat} (vs : List V) (H : Hp) (Q : VK) (E : XK) (h : spTerm K (n + 1) vs H Q E) : tTm K (spTerm K n) { nx := fun _ H' => Q .non H', rt := Q } (start ["_law_state_here", "_law_makes_here", "_law_kind", "_law_names", "_law_around", "_law_deep", "_law_leaves", "_law_made", "_law_f", "_law_parts", "_law_k", "_law_x", "_law_one"] vs) H := by
  obtain ⟨s, m, F, kn, xs, ar, kd, v3, v4, j, rfl, hj, sg, dk, hkd, skd, r3, hx1, hx, sx, r4, ha4, q⟩ := h
  have ms : m ≠ s := dk.ne sg
  have lenA : ∀ (σ : L2.St), σ[4]? = some (some v4) → ED K (tCB (rLenOf K) (tCons (tVar 4) tNil)) σ F H (.int (ar.length : Nat)) := fun σ h => by
    have z := ed_cb (σ := σ) (ea_cons (ed_var h r4) ea_nil) (rc_lenL (F := F) (H := H))
    rw [List.length_map] at z
    exact z
  -- leaves = [('bound', k) ..]
  refine q_set (ed_lcRF (n := ar.length) (f := fun c => encL (.bound c)) (p := fun c => decide (ar.getD c "" = kd)) (lenA _ rfl) (by omega) (fun _ => rfl) (fun c F1 H1 hc g1 => ?_) (fun c F1 H1 hc hp g1 => ed_tup (ea_cons ed_str (ea_cons (ed_var rfl (.int _)) ea_nil)) (by simp))) sg.fh fun v6 F1 H1 g1 r6 => ?_
  · have e : ar.getD c "" = ar[c] := by simp [List.getD, hc]
    show EB _ _ _ _ (decide (ar.getD c "" = kd))
    rw [e]
    exact eb_test (ed_op (ed_op (ed_var rfl (r4.at g1.ff)) (ed_var rfl (.int _)) (rr_ixL (atI_map (List.getElem?_eq_getElem hc)))) (ed_var rfl (.str kd)) rr_eqS)
  generalize hA : (List.range ar.length).filter (fun c => decide (ar.getD c "" = kd)) = A at r6
  have hAl : A.length ≤ ar.length := by
    rw [← hA]
    exact Nat.le_trans (List.length_filter_le _ _) (by rw [List.length_range]; exact Nat.le_refl _)
  have hAm : ∀ c ∈ A, c < ar.length := fun c hc => by
    rw [← hA] at hc
    exact List.mem_range.mp (List.mem_filter.mp hc).1
  -- leaves = leaves + [('name', x, kind) ..]
  refine q_set (ed_op (ed_var rfl r6) (ed_lcL (xs := xs) (e := .str) (f := fun x => encL (.name x kd)) (ed_var rfl (r3.at g1.ff)) (by omega) (fun _ => rfl) (fun a x F2 H2 ha g2 rx => ed_tup (ea_cons ed_str (ea_cons (ed_var rfl rx) (ea_cons (ed_var rfl (.str kd)) ea_nil))) (by simp))) (rr_cat (by rw [List.length_map, List.length_map]; omega))) g1.fh fun v6 F2 H2 g2 r6 => ?_
  have g12 := g1.tr g2
  have eL : A.map (fun c => encL (.bound c)) ++ xs.map (fun x => encL (.name x kd)) = (A.map Lf.bound ++ xs.map (Lf.name · kd)).map encL := by
    rw [List.map_append, List.map_map, List.map_map]
    rfl
  rw [eL] at r6
  have hL : ∀ l ∈ A.map Lf.bound ++ xs.map (Lf.name · kd), TmOk j kn xs ar.length (.lf l) := fun l hl => by
    rcases List.mem_append.mp hl with hl | hl
    · obtain ⟨c, hc, rfl⟩ := List.mem_map.mp hl
      exact .bound (hAm c hc)
    · obtain ⟨x, hx, rfl⟩ := List.mem_map.mp hl
      exact .name hx hkd (sx x hx) skd
  have hLl : 1 ≤ (A.map Lf.bound ++ xs.map (Lf.name · kd)).length ∧ (A.map Lf.bound ++ xs.map (Lf.name · kd)).length ≤ 1000 := by
    rw [List.length_append, List.length_map, List.length_map]
    omega
  generalize A.map Lf.bound ++ xs.map (Lf.name · kd) = ls at r6 hL hLl
  -- made = [f for f in makes if makes[f][1] == kind]
  have dk2 := dk.more g12 fun z => nomatch z
  have sg2 := sg.to g12
  obtain ⟨kvs, g, hm, fm, hk, hg⟩ := dk2.pick
  refine q_keys (K := K) (kvs := kvs) (pr := fun p => decide ((g p).2.2.1 = kd)) (f := fun p => .str (g p).1) rfl hm fm sg2.fh (by omega) (fun _ => rfl) (fun a F3 H3 od ha s3 s3h h3 => ?_) (fun a F3 H3 od ha s3 s3h h3 => ?_) fun v7 F3 H4 g4 hm4 r7 => ?_
  · obtain ⟨_, e2, e3, _⟩ := hg a ha
    exact eb0_test (ed0_op (ed0_op (ed0_dget rfl rfl (.inl ⟨kvs, a.1, .inr ⟨od, h3⟩, rfl, e2.symm⟩) (e3.at s3) s3h) ed_int (fun F5 H5 => rr_ixT (atI_nat (j := 1) rfl))) (ed_var rfl (.str kd)) fun F5 H5 => rr_eqS)
  · obtain ⟨e1, _⟩ := hg a ha
    refine ED.z (ed_var rfl ?_) s3h
    rw [e1]
    exact .str _
  have eM : ((kvs.filter fun p => decide ((g p).2.2.1 = kd)).map fun p => PyData.str (g p).1) = ((kvs.filter fun p => decide ((g p).2.2.1 = kd)).map fun p => (g p).1).map PyData.str := by
    rw [List.map_map]
    rfl
  rw [eM] at r7
  have hM : ∀ f ∈ (kvs.filter fun p => decide ((g p).2.2.1 = kd)).map fun p => (g p).1, ∃ p ∈ kvs, f = (g p).1 := fun f hf => by
    obtain ⟨p, hp, rfl⟩ := List.mem_map.mp hf
    exact ⟨p, (List.mem_filter.mp hp).1, rfl⟩
  have hMl : ((kvs.filter fun p => decide ((g p).2.2.1 = kd)).map fun p => (g p).1).length ≤ 1000 := by
    rw [List.length_map]
    have := List.length_filter_le (fun p => decide ((g p).2.2.1 = kd)) kvs
    omega
  generalize ((kvs.filter fun p => decide ((g p).2.2.1 = kd)).map fun p => (g p).1) = md at r7 hM hMl
  have sg4 := sg2.to g4
  have dk4 := dk2.more g4 fun z => nomatch z
  have g14 := g12.tr g4
  have soM : ∀ x ∈ md, So x := fun x hx => by
    obtain ⟨p, hp, rfl⟩ := hM x hx
    exact (hg p hp).2.2.2.1
  -- if made != [] and deep > 0 and draw(state, 3) > 0
  refine qm_when (s := s) (C := fun b => b = true → (!md.isEmpty) = true ∧ (true = true → decide ((0 : Int) < (j : Int)) = true ∧ True)) (ebm_and (C := fun b => b = true → decide ((0 : Int) < (j : Int)) = true ∧ True) ?_ sg4 fun _ F5 H5 g5 k5 => ebm_and (C := fun _ => True) (eb_test (K := K) (ed_op (ed_var rfl (.int _)) ed_int (rr_B (p := fun i j => decide (j < i))))) k5 fun _ F6 H6 g6 k6 => ebm_test (K := K) (em_op (em_draw (m := 3) (H := H6) rfl ed_int (by decide) (by decide)) (fun F7 _ => em_of (H := H6) ed_int rfl (A := fun d => d = .int 0)) ?_) k6) (fun F5 H5 hc g5 k5 => ?_) (fun F5 H5 _ g5 k5 => ?_)
  · rw [← ne_nil PyData.str md]
    exact eb_test (ed_op (ed_var rfl r7) (ed_lst ea_nil (by simp)) (rr_neD (shaped_strs soM) shaped_nil))
  · rintro d e ⟨r, rfl, hr⟩ rfl
    exact ⟨_, ⟨_, rfl, trivial⟩, fun F5 H5 => rr_B (p := fun i j => decide (j < i))⟩
  · obtain ⟨c1, c2⟩ := hc rfl
    have hj0 : 0 < j := by
      have := of_decide_eq_true (c2 rfl).1
      omega
    obtain ⟨j0, rfl⟩ : ∃ j0, j = j0 + 1 := ⟨j - 1, by omega⟩
    have hm1 : 1 ≤ md.length := by
      cases md with
      | nil => cases c1
      | cons a b => exact Nat.succ_le_succ (Nat.zero_le _)
    -- f = made[draw(state, len(made))]
    refine qm_set (em_pick (H := H5) (xs := md) (f := .str) rfl rfl (r7.at g5.ff) hm1 hMl) k5 fun v8 d F6 H6 g6 k6 a6 r8 => ?_
    obtain ⟨f, hf, rfl⟩ := a6
    obtain ⟨p, hp, rfl⟩ := hM f hf
    cases r8.asStr
    obtain ⟨e1, e2, e3, e4⟩ := hg p hp
    have g56 := g5.trM g6
    have nm : m ∉ [s] := fun z => ms (List.mem_singleton.mp z)
    have hm6 := g56.hh _ _ nm hm4
    have dk6 := dk4.more g56 nm
    -- parts
    have dg : DGet H6 m (.str (g p).1) (some (g p).2.2.2) := .inl ⟨kvs, p.1, .inl hm6, by rw [e1]; rfl, e2.symm⟩
    refine qm0_set (em0_lcL (xs := (g p).2.1) (e := .str) (A := fun d => ∃ t, d = enc t ∧ TmOk j0 kn xs ar.length t) k6 (ed0_op (ed0_dget rfl rfl dg ((e3.at g4.ff).at g56.ff) k6.fh) ed_int (fun F7 H7 => rr_ixT (atI_nat (j := 0) rfl))) (by have := e4.2.1; omega) (fun _ => rfl) (fun a x F7 H7 ha g7 k7 rx => ?_)) fun v9 d F7 H7 g7 k7 a7 r9 => ?_
    · obtain ⟨t1, t2⟩ := e4.2.2.1 a ha
      cases rx.asStr
      have gg : Same F F7 := g14.ff.trans (g56.ff.trans g7.ff)
      intro Q2 q2
      refine ⟨.ref s, rfl, .ref m, rfl, .str a, rfl, v3, rfl, v4, rfl, .int ((j0 + 1 : Nat) : Int), rfl, _, _, rfl, rfl, ?_⟩
      refine ⟨s, m, F7, kn, xs, ar, a, v3, v4, j0, ?_, by omega, k7, dk6.more g7 nm, t1, t2, r3.at gg, hx1, hx, sx, r4.at gg, ha4, fun t v F8 H8 ok8 g8 k8 r8 => q2 v _ F8 H8 g8 k8 ⟨t, rfl, ok8⟩ r8⟩
      show [V.ref s, .ref m, .str a, v3, v4, .int (((j0 + 1 : Nat) : Int) - 1)] = [V.ref s, .ref m, .str a, v3, v4, .int (j0 : Int)]
      rw [show ((j0 + 1 : Nat) : Int) - 1 = (j0 : Int) by omega]
    · obtain ⟨ds, rfl, hl, hd⟩ := a7
      obtain ⟨ts, rfl, hl2, ht⟩ := things_of ds hd
      refine q_ret (d := enc (.made (g p).1 ts)) (ed_tup (ea_cons ed_str (ea_cons (ed_var rfl (.str _)) (ea_cons (ed_cb (ea_cons (ed_var rfl r9) ea_nil) rc_tupleL) ea_nil))) (by simp)) k7.fh fun v F8 H8 g8 r8 => ?_
      exact q (.made (g p).1 ts) v F8 H8 (.made e4.1 (by have := e4.2.1; omega) ht) (g14.w.trM ((g56.trM g7).trM g8.w)) (k7.to g8) r8
  · -- return leaves[draw(state, len(leaves))]
    refine qm_ret (em_pick (H := H5) (xs := ls) (f := encL) rfl rfl ((r6.at g4.ff).at g5.ff) hLl.1 hLl.2) k5 fun v d F6 H6 g6 k6 a6 r => ?_
    obtain ⟨l, hl, rfl⟩ := a6
    exact q (.lf l) v F6 H6 (hL l hl) (g14.w.trM (g5.trM g6)) k6 r
theorem ok_Tm {f fD : Addr} {fd fdD : FuncData} (D : Df K mg "_law_term" sTm ["_law_state_here", "_law_makes_here", "_law_kind", "_law_names", "_law_around", "_law_deep"] f fd) (DD : Df K mg "_law_draw" sDr ["_law_state_here", "_law_many"] fD fdD) (GD : FnOk P w K mg base CX0 1 fD fdD ["_law_state_here", "_law_many"] spDraw)
    (m_range : mg "range" = none) (m_len : mg "len" = none) (m_tuple : mg "tuple" = none) : ∀ n, FnOk P w K mg base CX0 (n + 2) f fd ["_law_state_here", "_law_makes_here", "_law_kind", "_law_names", "_law_around", "_law_deep"] (spTerm K n) := by
  intro n
  induction n with
  | zero =>
    refine D.F.ok scTm (fun vs H Q E h => ?_) (fun cdv A outer s H vs Q E hr h => ?_)
    · obtain ⟨s, m, F, kn, xs, ar, kd, v3, v4, j, _, hj, _⟩ := h
      cases hj
    · obtain ⟨s, m, F, kn, xs, ar, kd, v3, v4, j, _, hj, _⟩ := h
      cases hj
  | succ n ih =>
    refine D.F.ok scTm (fun vs H Q E h => ?_) (fun cdv A outer s H vs Q E hr h => ⟨tTm K (spTerm K n), ?_, pure_Tm vs H Q E h⟩)
    · obtain ⟨s, m, F, kn, xs, ar, kd, v3, v4, j, rfl, _⟩ := h
      rfl
    · exact (pss_cons (ps_setLc (i := 6) (own := [("_law_k", 10)]) (g := (gName 10)) (tt := (tTest (tOp rEq (tOp (rIxL K) (tVar 4) (tVar 10)) (tVar 2)))) (by rfl) scTm.nd rfl rfl (sw_true rfl rfl rfl (by decide +kernel)) (pi_range1 (by rfl) m_range (pa_cons (pe_callB call_len_seq (by rfl) m_len (by decide +kernel) (pa_cons (pv 4) pa_nil)) pa_nil)) (blkOk_by (own := [("_law_k", 10)]) (N := ["_law_state_here", "_law_makes_here", "_law_kind", "_law_names", "_law_around", "_law_deep", "_law_leaves", "_law_made", "_law_f", "_law_parts", "_law_k", "_law_x", "_law_one"]) (sc := defScope sTm) (by decide +kernel)) (fun _ _ _ _ _ => (pg_name (i := 10) scTm.nd rfl (Or.inl rfl))) (fun _ _ _ _ _ => (pts_one (pt_cmpR op_eq (pe_ix ix_list (pv 4) (pv 10) (fun _ _ => rfl)) (pv 2) (nomark _)))) (fun _ _ _ _ _ => (pe_tup (pa_cons pe_str (pa_cons (pv 10) pa_nil)))))
    (pss_cons (ps_set (i := 6) scTm.nd rfl (Or.inl rfl) (pe_op op_cat (pv 6) (pe_lc (own := [("_law_x", 11)]) (g := (gName 11)) (tt := tYes) (by rfl) scTm.nd (pi_list (pv 3)) (blkOk_by (own := [("_law_x", 11)]) (N := ["_law_state_here", "_law_makes_here", "_law_kind", "_law_names", "_law_around", "_law_deep", "_law_leaves", "_law_made", "_law_f", "_law_parts", "_law_k", "_law_x", "_law_one"]) (sc := defScope sTm) (by decide +kernel)) (fun _ _ _ _ _ => (pg_name (i := 11) scTm.nd rfl (Or.inl rfl))) (fun _ _ _ _ _ => pts_nil) (fun _ _ _ _ _ => (pe_tup (pa_cons pe_str (pa_cons (pv 11) (pa_cons (pv 2) pa_nil))))))))
    (pss_cons (ps_lock (ps_setLc (i := 7) (own := [("_law_f", 8)]) (g := (gName 8)) (tt := (tTest (tOp rEq (tOp (rIxT K) (tDGet (tVar 1) (tVar 8)) (tC (.int 1))) (tVar 2)))) (by rfl) scTm.nd rfl rfl (sw_true rfl rfl rfl (by decide +kernel)) (pi_keys (pv 1)) (blkOk_by (own := [("_law_f", 8)]) (N := ["_law_state_here", "_law_makes_here", "_law_kind", "_law_names", "_law_around", "_law_deep", "_law_leaves", "_law_made", "_law_f", "_law_parts", "_law_k", "_law_x", "_law_one"]) (sc := defScope sTm) (by decide +kernel)) (fun _ _ _ _ _ => (pg_name (i := 8) scTm.nd rfl (Or.inl rfl))) (fun _ _ _ _ _ => (pts_one (pt_cmpR op_eq (pe_ix ix_tup (pe_dget (hu_of hr) (pv 1) (pv 8) (fun _ _ => rfl)) pe_int (fun _ _ => rfl)) (pv 2) (nomark _)))) (fun _ _ _ _ _ => (pv 8))))
    (pss_cons (ps_if (PW.pt (pw_and (pt_cmpR (op_neD hr.units) (pv 7) (pe_lst pa_nil) (nomark _)) (pw_and (pt_cmpR op_gt (pv 5) pe_int (nomark _)) (pw_and1 (pt_cmpR op_gt (pe_call GD (hr.mono (by omega)) (by rfl) DD.g DD.F.kp DD.b .nil pass0 (pa_cons (pv 0) (pa_cons pe_int pa_nil))) pe_int (nomark _)))))) (pss_cons (ps_set (i := 8) scTm.nd rfl (Or.inl rfl) (pe_ix ix_list (pv 7) (pe_call GD (hr.mono (by omega)) (by rfl) DD.g DD.F.kp DD.b .nil pass0 (pa_cons (pv 0) (pa_cons (pe_callB call_len_seq (by rfl) m_len (by decide +kernel) (pa_cons (pv 7) pa_nil)) pa_nil))) (fun _ _ => rfl)))
    (pss_cons (ps_setLc (i := 9) (own := [("_law_one", 12)]) (g := (gName 12)) (tt := tYes) (by rfl) scTm.nd rfl rfl (sw_true rfl rfl rfl (by decide +kernel)) (pi_list (pe_ix ix_tup (pe_dget (hu_of hr) (pv 1) (pv 8) (fun _ _ => rfl)) pe_int (fun _ _ => rfl))) (blkOk_by (own := [("_law_one", 12)]) (N := ["_law_state_here", "_law_makes_here", "_law_kind", "_law_names", "_law_around", "_law_deep", "_law_leaves", "_law_made", "_law_f", "_law_parts", "_law_k", "_law_x", "_law_one"]) (sc := defScope sTm) (by decide +kernel)) (fun _ _ _ _ _ => (pg_name (i := 12) scTm.nd rfl (Or.inl rfl))) (fun _ _ _ _ _ => pts_nil) (fun _ _ _ _ _ => (pe_call ih hr (by rfl) D.g D.F.kp D.b .nil pass0 (pa_cons (pv 0) (pa_cons (pv 1) (pa_cons (pv 12) (pa_cons (pv 3) (pa_cons (pv 4) (pa_cons (pe_op op_sub (pv 5) pe_int) pa_nil)))))))))
    (pss_one (ps_ret (pe_tup (pa_cons pe_str (pa_cons (pv 8) (pa_cons (pe_callTy call_tuple_of (by rfl) m_tuple (by decide +kernel) (pa_cons (pv 9) pa_nil)) pa_nil)))))))) pss_nil)
    (pss_one (ps_ret (pe_ix ix_list (pv 6) (pe_call GD (hr.mono (by omega)) (by rfl) DD.g DD.F.kp DD.b .nil pass0 (pa_cons (pv 0) (pa_cons (pe_callB call_len_seq (by rfl) m_len (by decide +kernel) (pa_cons (pv 6) pa_nil)) pa_nil))) (fun _ _ => rfl))))))))
end
end Wk
namespace Wk
open PySem PySem.Spec PyProof.Rows L2 Ly Tm
/-! ### drawn sayings, plainly -/
structure SyOk (d mo : Nat) (kn xs : List Str) (c : Nat) (t : Th) : Prop where
  ok : Ok false (d + mo + 2) t
  cl : Cl c t
  nm : ∀ p ∈ names t, ∃ x k, x ∈ xs ∧ k ∈ kn ∧ So x ∧ So k ∧ p = [x, k]
  no : ∀ z, z ∉ xs → No z t
  wt : Tm.wt t ≤ 2 ^ (d + 1) * 3 ^ mo
section
variable {d mo : Nat} {kn xs : List Str} {c : Nat} {a b : Th}
theorem SyOk.none : SyOk d mo kn xs c (.node "no" []) :=
  ⟨.node (.inr (.inl rfl)) (by simp) .nil, .node .nil, fun p hp => (nomatch hp), fun z _ => .node .nil, Nat.zero_le _⟩
theorem SyOk.same (ha : TmOk mo kn xs c a) (hb : TmOk mo kn xs c b) : SyOk d mo kn xs c (.node "same" [a, b]) := by
  refine ⟨.node (.inl rfl) (by simp) (.cons (ha.ok.up (by omega)) (.cons (hb.ok.up (by omega)) .nil)), .node (.cons ha.cl (.cons hb.cl .nil)), fun p hp => ?_, fun z hz => .node (.cons (ha.no z hz) (.cons (hb.no z hz) .nil)), ?_⟩
  · obtain ⟨t, ht, hp2⟩ := mem_namess (ts := [a, b]) hp
    rcases List.mem_cons.mp ht with rfl | ht
    · exact ha.nm p hp2
    · rw [List.mem_singleton.mp ht] at hp2
      exact hb.nm p hp2
  · show Tm.wt a + (Tm.wt b + 0) ≤ _
    have h1 := ha.wt
    have h2 := hb.wt
    have h3 : 2 * 3 ^ mo ≤ 2 ^ (d + 1) * 3 ^ mo := Nat.mul_le_mul_right _ (by
      rw [Nat.pow_succ]
      have : 1 ≤ 2 ^ d := Nat.one_le_pow _ _ (by decide)
      omega)
    omega
theorem SyOk.not (ha : SyOk d mo kn xs c a) : SyOk (d + 1) mo kn xs c (.node "not" [a]) := by
  refine ⟨.node (.inr (.inr (.inl rfl))) (by simp) (.cons (ha.ok.up (by omega)) .nil), .node (.cons ha.cl .nil), fun p hp => ?_, fun z hz => .node (.cons (ha.no z hz) .nil), ?_⟩
  · obtain ⟨t, ht, hp2⟩ := mem_namess (ts := [a]) hp
    rw [List.mem_singleton.mp ht] at hp2
    exact ha.nm p hp2
  · show Tm.wt a + 0 ≤ _
    have h1 := ha.wt
    rw [Nat.pow_succ, Nat.mul_right_comm]
    omega
theorem SyOk.two {w : Str} (hw : Word w) (ha : SyOk d mo kn xs c a) (hb : SyOk d mo kn xs c b) : SyOk (d + 1) mo kn xs c (.node w [a, b]) := by
  refine ⟨.node hw (by simp) (.cons (ha.ok.up (by omega)) (.cons (hb.ok.up (by omega)) .nil)), .node (.cons ha.cl (.cons hb.cl .nil)), fun p hp => ?_, fun z hz => .node (.cons (ha.no z hz) (.cons (hb.no z hz) .nil)), ?_⟩
  · obtain ⟨t, ht, hp2⟩ := mem_namess (ts := [a, b]) hp
    rcases List.mem_cons.mp ht with rfl | ht
    · exact ha.nm p hp2
    · rw [List.mem_singleton.mp ht] at hp2
      exact hb.nm p hp2
  · show Tm.wt a + (Tm.wt b + 0) ≤ _
    have h1 := ha.wt
    have h2 := hb.wt
    rw [Nat.pow_succ, Nat.mul_right_comm]
    omega
theorem SyOk.bind {w k : Str} (hw : Binder w) (hk : So k) (ha : SyOk d mo kn xs (c + 1) a) : SyOk (d + 1) mo kn xs c (.bind w k a) := by
  refine ⟨?_, .bind ha.cl, ha.nm, fun z hz => .bind (ha.no z hz), ?_⟩
  · have z : Ok false (d + mo + 2 + 1) (.bind w k a) := .bind rfl hw hk ha.ok
    exact z.up (by omega)
  · show Tm.wt a ≤ _
    have h1 := ha.wt
    rw [Nat.pow_succ, Nat.mul_right_comm]
    omega
end
/-- what a drawing of sayings has around it -/
structure Rm (K : PySem.W.Frag) (s m : Addr) (F H : Hp) (kn xs : List Str) (v2 v3 : V) : Prop where
  sg : Sg s F H
  dk : Dk K F H m (EnOk kn) 100
  r2 : R K F v2 (.list (kn.map .str))
  k1 : 1 ≤ kn.length
  k4 : kn.length ≤ 4
  sk : ∀ k ∈ kn, So k
  r3 : R K F v3 (.list (xs.map .str))
  x1 : 1 ≤ xs.length
  x4 : xs.length ≤ 4
  sx : ∀ x ∈ xs, So x
section
variable {K : PySem.W.Frag} {s m : Addr} {F H F1 H1 : Hp} {kn xs ar : List Str} {v2 v3 v4 : V} {σ : L2.St} {te ta : TE} {D : Ends}
theorem Rm.st (r : Rm K s m F H kn xs v2 v3) (g : Gr [s] F H F1 H1) (k : Sg s F1 H1) : Rm K s m F1 H1 kn xs v2 v3 :=
  ⟨k, r.dk.more g fun z => r.dk.ne r.sg (List.mem_singleton.mp z), r.r2.at g.ff, r.k1, r.k4, r.sk, r.r3.at g.ff, r.x1, r.x4, r.sx⟩
theorem Rm.pure (r : Rm K s m F H kn xs v2 v3) (g : Gr [] F H F1 H1) : Rm K s m F1 H1 kn xs v2 v3 := r.st g.w (r.sg.to g)
/-- return (w, x, e), e turning the state -/
theorem ret3 {A : PyData → Prop} {c : Str} {i : Nat} {vi : V} {e : PyData} (k : Sg s F H) (ha : ED K ta σ F H (.str c)) (hi : σ[i]? = some (some vi)) (ri : R K F vi e) (h : ∀ F1 H1, Gr [] F H F1 H1 → EM0 K s te σ F1 H1 A)
    (q : ∀ v d F1 H1, Gr [s] F H F1 H1 → Sg s F1 H1 → A d → R K F1 v (.tuple [.str c, e, d]) → D.rt v H1) : tRet (tTup (tCons ta (tCons (tVar i) (tCons te tNil)))) D σ H :=
  ha.go k.fh fun v0 F1 H1 g1 r0 => ⟨vi, hi, h F1 H1 g1 _ fun v d F2 H2 g2 k2 a r => ⟨by show 3 ≤ sizeLine; decide, fun p np => by
    have g4 : Gr [] F2 H2 (upd F2 p (.tup [v0, vi, v])) (upd H2 p (.tup [v0, vi, v])) := (Gr.refl k2.fh).new np
    exact q (.ref p) d _ _ ((g1.w.trM g2).trM g4.w) (k2.to g4) a (.tup (.inl (.inl upd_same)) (.cons ((r0.at g2.ff).at g4.ff) (.cons (((ri.at g1.ff).at g2.ff).at g4.ff) (.cons (r.at g4.ff) .nil))))⟩⟩
theorem ret2 {A : PyData → Prop} {c : Str} (h : EM0 K s te σ F H A)
    (q : ∀ v d F1 H1, Gr [s] F H F1 H1 → Sg s F1 H1 → A d → R K F1 v (.tuple [.str c, d]) → D.rt v H1) : tRet (tTup (tCons (tC (.str c)) (tCons te tNil))) D σ H :=
  h _ fun v d F2 H2 g2 k2 a r => ⟨by show 2 ≤ sizeLine; decide, fun p np => by
    have g4 : Gr [] F2 H2 (upd F2 p (.tup [.str c, v])) (upd H2 p (.tup [.str c, v])) := (Gr.refl k2.fh).new np
    exact q (.ref p) d _ _ (g2.trM g4.w) (k2.to g4) a (.tup (.inl (.inl upd_same)) (.cons (.str c) (.cons (r.at g4.ff) .nil)))⟩
theorem em_term {mo : Nat} {kd : Str} (h0 : σ[0]? = some (some (.ref s))) (h1 : σ[1]? = some (some (.ref m))) (h8 : σ[8]? = some (some (.str kd))) (h3 : σ[3]? = some (some v3)) (h4 : σ[4]? = some (some v4)) (h6 : σ[6]? = some (some (.int mo))) (rm : Rm K s m F H kn xs v2 v3) (hk : kd ∈ kn) (r4 : R K F v4 (.list (ar.map .str))) (ha : ar.length ≤ 10) (hm : mo < 3) :
    EM0 K s (tCall (spTerm K 3) [] E0 (tCons (tVar 0) (tCons (tVar 1) (tCons (tVar 8) (tCons (tVar 3) (tCons (tVar 4) (tCons (tVar 6) tNil))))))) σ F H (fun d => ∃ t, d = enc t ∧ TmOk mo kn xs ar.length t) := fun Q q =>
  ⟨.ref s, h0, .ref m, h1, .str kd, h8, v3, h3, v4, h4, .int mo, h6, s, m, F, kn, xs, ar, kd, v3, v4, mo, rfl, hm, rm.sg, rm.dk, hk, rm.sk _ hk, rm.r3, rm.x1, Nat.le_trans rm.x4 (by decide), rm.sx, r4, ha, fun t v F1 H1 ok g k r => q v _ F1 H1 g k ⟨t, rfl, ok⟩ r⟩
def spSaying (K : PySem.W.Frag) (n : Nat) : Sp := fun vs H Q _ => ∃ (s m : Addr) (F : Hp) (kn xs ar : List Str) (v2 v3 v4 : V) (dp mo : Nat), vs = [.ref s, .ref m, v2, v3, v4, .int dp, .int mo] ∧ dp < n ∧ mo < 3 ∧ Rm K s m F H kn xs v2 v3 ∧ R K F v4 (.list (ar.map .str)) ∧ ar.length + dp ≤ 10 ∧
  ∀ t v F1 H1, SyOk dp mo kn xs ar.length t → Gr [s] F H F1 H1 → Sg s F1 H1 → R K F1 v (enc t) → Q v H1
theorem em_say {n mo dp : Nat} (h0 : σ[0]? = some (some (.ref s))) (h1 : σ[1]? = some (some (.ref m))) (h2 : σ[2]? = some (some v2)) (h3 : σ[3]? = some (some v3)) (h4 : ED K ta σ F H (.list (ar.map .str))) (h5 : σ[5]? = some (some (.int ((dp + 1 : Nat) : Int)))) (h6 : σ[6]? = some (some (.int mo))) (rm : Rm K s m F H kn xs v2 v3) (ha : ar.length + dp ≤ 10) (hd : dp < n) (hm : mo < 3) :
    EM0 K s (tCall (spSaying K n) [] E0 (tCons (tVar 0) (tCons (tVar 1) (tCons (tVar 2) (tCons (tVar 3) (tCons ta (tCons (tOp (rI0 fun i j => .int (i - j)) (tVar 5) (tC (.int 1))) (tCons (tVar 6) tNil)))))))) σ F H (fun d => ∃ t, d = enc t ∧ SyOk dp mo kn xs ar.length t) := fun Q q =>
  ⟨.ref s, h0, .ref m, h1, v2, h2, v3, h3, h4.go rm.sg.fh fun v4 F1 H1 g1 r4 => ⟨.int ((dp + 1 : Nat) : Int), h5, _, _, rfl, rfl, .int mo, h6, by
    have rm1 := rm.pure g1
    refine ⟨s, m, F1, kn, xs, ar, v2, v3, v4, dp, mo, ?_, hd, hm, rm1, r4, ha, fun t v F8 H8 ok8 g8 k8 r8 => q v _ F8 H8 (g1.w.trM g8) k8 ⟨t, rfl, ok8⟩ r8⟩
    show [V.ref s, .ref m, v2, v3, v4, .int (((dp + 1 : Nat) : Int) - 1), .int mo] = [V.ref s, .ref m, v2, v3, v4, .int (dp : Int), .int mo]
    rw [show ((dp + 1 : Nat) : Int) - 1 = (dp : Int) by omega]⟩⟩
theorem ed_word3 {r : Nat} (h7 : σ[7]? = some (some (.int r))) (h : r = 4 ∨ r = 5 ∨ r = 6) : ∃ c, Word c ∧ ED K (tOp (rIxL K) (tLst (tCons (tC (.str "and")) (tCons (tC (.str "or")) (tCons (tC (.str "so")) tNil)))) (tOp (rI0 fun i j => .int (i - j)) (tVar 7) (tC (.int 4)))) σ F H (.str c) := by
  have z : ∀ c, atI [PyData.str "and", .str "or", .str "so"] ((r : Int) - 4) = some (.str c) → ED K (tOp (rIxL K) (tLst (tCons (tC (.str "and")) (tCons (tC (.str "or")) (tCons (tC (.str "so")) tNil)))) (tOp (rI0 fun i j => .int (i - j)) (tVar 7) (tC (.int 4)))) σ F H (.str c) := fun c e =>
    ed_op (ed_lst (ea_cons ed_str (ea_cons ed_str (ea_cons ed_str ea_nil))) (by simp)) (ed_op (ed_var h7 (.int _)) ed_int rr_sub) (rr_ixL e)
  rcases h with rfl | rfl | rfl
  · exact ⟨"and", .inr (.inr (.inr (.inl rfl))), z _ rfl⟩
  · exact ⟨"or", .inr (.inr (.inr (.inr (.inl rfl)))), z _ rfl⟩
  · exact ⟨"so", .inr (.inr (.inr (.inr (.inr rfl)))), z _ rfl⟩
theorem ed_word2 {r : Nat} (h7 : σ[7]? = some (some (.int r))) (h : r = 7 ∨ r = 8) : ∃ c, Binder c ∧ ED K (tOp (rIxL K) (tLst (tCons (tC (.str "all")) (tCons (tC (.str "some")) tNil))) (tOp (rI0 fun i j => .int (i - j)) (tVar 7) (tC (.int 7)))) σ F H (.str c) := by
  have z : ∀ c, atI [PyData.str "all", .str "some"] ((r : Int) - 7) = some (.str c) → ED K (tOp (rIxL K) (tLst (tCons (tC (.str "all")) (tCons (tC (.str "some")) tNil))) (tOp (rI0 fun i j => .int (i - j)) (tVar 7) (tC (.int 7)))) σ F H (.str c) := fun c e =>
    ed_op (ed_lst (ea_cons ed_str (ea_cons ed_str ea_nil)) (by simp)) (ed_op (ed_var h7 (.int _)) ed_int rr_sub) (rr_ixL e)
  rcases h with rfl | rfl
  · exact ⟨"all", .inl rfl, z _ rfl⟩
  · exact ⟨"some", .inr rfl, z _ rfl⟩
end
abbrev sSy : Stmt := topS 18
theorem scSy : FnScope ["_law_state_here", "_law_makes_here", "_law_kinds_here", "_law_names", "_law_around", "_law_deep", "_law_most", "_law_way", "_law_kind", "_law_one", "_law_other"] ["_law_state_here", "_law_makes_here", "_law_kinds_here", "_law_names", "_law_around", "_law_deep", "_law_most"] (defScope sSy) := ⟨rfl, rfl, rfl, by decide +kernel, rfl, by decide +kernel, by decide +kernel⟩
def tSy (K : PySem.W.Frag) (sp : Sp) : TS :=
  (tSeq (tAsg (tCall spDraw [] E0 (tCons (tVar 0) (tCons (tC (.int 9)) tNil))) (gName 7))
  (tSeq (tIfS (tTest (tOp rEq (tVar 7) (tC (.int 0)))) (tRet (tTup (tCons (tC (.str "no")) tNil))) tNext)
  (tSeq (tAsg (tOp (rIxL K) (tVar 2) (tCall spDraw [] E0 (tCons (tVar 0) (tCons (tCB (rLenOf K) (tCons (tVar 2) tNil)) tNil)))) (gName 8))
  (tSeq (tIfS (tOr (tTest (tOp (rI0 fun i j => .bl (decide (i < j))) (tVar 7) (tC (.int 3)))) (tTest (tOp rEq (tVar 5) (tC (.int 0))))) (tSeq (tAsg (tCall (spTerm K 3) [] E0 (tCons (tVar 0) (tCons (tVar 1) (tCons (tVar 8) (tCons (tVar 3) (tCons (tVar 4) (tCons (tVar 6) tNil))))))) (gName 9))
  (tRet (tTup (tCons (tC (.str "same")) (tCons (tVar 9) (tCons (tCall (spTerm K 3) [] E0 (tCons (tVar 0) (tCons (tVar 1) (tCons (tVar 8) (tCons (tVar 3) (tCons (tVar 4) (tCons (tVar 6) tNil))))))) tNil)))))) tNext)
  (tSeq (tIfS (tTest (tOp rEq (tVar 7) (tC (.int 3)))) (tRet (tTup (tCons (tC (.str "not")) (tCons (tCall sp [] E0 (tCons (tVar 0) (tCons (tVar 1) (tCons (tVar 2) (tCons (tVar 3) (tCons (tVar 4) (tCons (tOp (rI0 fun i j => .int (i - j)) (tVar 5) (tC (.int 1))) (tCons (tVar 6) tNil)))))))) tNil)))) tNext)
  (tSeq (tIfS (tTest (tOp (rI0 fun i j => .bl (decide (i < j))) (tVar 7) (tC (.int 7)))) (tSeq (tAsg (tCall sp [] E0 (tCons (tVar 0) (tCons (tVar 1) (tCons (tVar 2) (tCons (tVar 3) (tCons (tVar 4) (tCons (tOp (rI0 fun i j => .int (i - j)) (tVar 5) (tC (.int 1))) (tCons (tVar 6) tNil)))))))) (gName 9))
  (tSeq (tAsg (tCall sp [] E0 (tCons (tVar 0) (tCons (tVar 1) (tCons (tVar 2) (tCons (tVar 3) (tCons (tVar 4) (tCons (tOp (rI0 fun i j => .int (i - j)) (tVar 5) (tC (.int 1))) (tCons (tVar 6) tNil)))))))) (gName 10))
  (tRet (tTup (tCons (tOp (rIxL K) (tLst (tCons (tC (.str "and")) (tCons (tC (.str "or")) (tCons (tC (.str "so")) tNil)))) (tOp (rI0 fun i j => .int (i - j)) (tVar 7) (tC (.int 4)))) (tCons (tVar 9) (tCons (tVar 10) tNil))))))) tNext)
  (tRet (tTup (tCons (tOp (rIxL K) (tLst (tCons (tC (.str "all")) (tCons (tC (.str "some")) tNil))) (tOp (rI0 fun i j => .int (i - j)) (tVar 7) (tC (.int 7)))) (tCons (tVar 8) (tCons (tCall sp [] E0 (tCons (tVar 0) (tCons (tVar 1) (tCons (tVar 2) (tCons (tVar 3) (tCons (tOp rCat (tLst (tCons (tVar 8) tNil)) (tVar 4)) (tCons (tOp (rI0 fun i j => .int (i - j)) (tVar 5) (tC (.int 1))) (tCons (tVar 6) tNil)))))))) tNil)))))))))))
section
variable {P : Program} {w : World} {K : PySem.W.Frag} {mg : Str → Option Value} {base : Heap}
theorem pure_Sy {n : Nat} (vs : List V) (H : Hp) (Q : VK) (E : XK) (h : spSaying K (n + 1) vs H Q E) : tSy K (spSaying K n) { nx := fun _ H' => Q .non H', rt := Q } (start ["_law_state_here", "_law_makes_here", "_law_kinds_here", "_law_names", "_law_around", "_law_deep", "_law_most", "_law_way", "_law_kind", "_law_one", "_law_other"] vs) H := by
  obtain ⟨s, m, F, kn, xs, ar, v2, v3, v4, dp, mo, rfl, hd, hm, rm, r4, ha, q⟩ := h
  -- way = draw(state, 9)
  refine qm_set (K := K) (em_draw (m := 9) (H := H) rfl ed_int (by decide) (by decide)) rm.sg fun v7 d F1 H1 g1 k1 a1 r7 => ?_
  obtain ⟨r, rfl, hr⟩ := a1
  cases r7.asInt
  -- if way == 0
  refine q_when (b := decide ((r : Int) = 0)) (eb_test (K := K) (ed_op (ed_var rfl (.int _)) ed_int rr_eqI)) k1.fh (fun _ F2 H2 g2 => ?_) (fun hr0 F2 H2 g2 => ?_)
  · refine q_ret (K := K) (d := enc (.node "no" [])) (ed_tup (ea_cons ed_str ea_nil) (show 1 ≤ 100000 by decide)) g2.fh fun v F3 H3 g3 r3 => ?_
    exact q _ v F3 H3 .none ((g1.trM g2.w).trM g3.w) ((k1.to g2).to g3) r3
  have hr0 : r ≠ 0 := fun e => by rw [e] at hr0; cases hr0
  have rm2 := (rm.st g1 k1).pure g2
  have g12 : Gr [s] F H F2 H2 := g1.trM g2.w
  -- kind = ..
  refine qm_set (K := K) (em_pick (H := H2) (xs := kn) (f := .str) rfl rfl rm2.r2 rm2.k1 (by have := rm2.k4; omega)) rm2.sg fun v8 d F3 H3 g3 k3 a3 r8 => ?_
  obtain ⟨kd, hkd, rfl⟩ := a3
  cases r8.asStr
  have rm3 := rm2.st g3 k3
  have g13 : Gr [s] F H F3 H3 := g12.trM g3
  -- if way < 3 or deep == 0
  refine q_when (b := decide ((r : Int) < 3) || decide ((dp : Int) = 0)) (eb_or (eb_test (K := K) (ed_op (ed_var rfl (.int _)) ed_int (rr_B (p := fun i j => decide (i < j))))) fun _ => eb_test (K := K) (ed_op (ed_var rfl (.int _)) ed_int rr_eqI)) k3.fh (fun _ F4 H4 g4 => ?_) (fun hc F4 H4 g4 => ?_)
  · have rm4 := rm3.pure g4
    have g14 : Gr [s] F H F4 H4 := g13.trM g4.w
    refine qm0_set (em_term (ar := ar) (kd := kd) rfl rfl rfl rfl rfl rfl rm4 hkd (r4.at g14.ff) (by omega) hm) fun v9 d F5 H5 g5 k5 a5 r9 => ?_
    obtain ⟨t1, rfl, o1⟩ := a5
    have rm5 := rm4.st g5 k5
    have g15 : Gr [s] F H F5 H5 := g14.trM g5
    refine ret3 k5 ed_str rfl r9 (fun F6 H6 g6 => em_term (ar := ar) (kd := kd) rfl rfl rfl rfl rfl rfl (rm5.pure g6) hkd ((r4.at g15.ff).at g6.ff) (by omega) hm) fun v d F6 H6 g6 k6 a6 r => ?_
    obtain ⟨t2, rfl, o2⟩ := a6
    exact q (.node "same" [t1, t2]) v F6 H6 (.same o1 o2) (g15.trM g6) k6 r
  rw [Bool.or_eq_false_iff] at hc
  have hr3 : 3 ≤ r := by have := of_decide_eq_false hc.1; omega
  have hd0 : dp ≠ 0 := by have := of_decide_eq_false hc.2; omega
  obtain ⟨d0, rfl⟩ : ∃ d0, dp = d0 + 1 := ⟨dp - 1, by omega⟩
  have rm4 := rm3.pure g4
  have g14 : Gr [s] F H F4 H4 := g13.trM g4.w
  -- if way == 3
  refine q_when (b := decide ((r : Int) = 3)) (eb_test (K := K) (ed_op (ed_var rfl (.int _)) ed_int rr_eqI)) g4.fh (fun _ F5 H5 g5 => ?_) (fun hc3 F5 H5 g5 => ?_)
  · have rm5 := rm4.pure g5
    have g15 : Gr [s] F H F5 H5 := g14.trM g5.w
    refine ret2 (em_say (ar := ar) (dp := d0) rfl rfl rfl rfl (ed_var rfl (r4.at g15.ff)) rfl rfl rm5 (by omega) (by omega) hm) fun v d F6 H6 g6 k6 a6 r => ?_
    obtain ⟨t2, rfl, o2⟩ := a6
    exact q (.node "not" [t2]) v F6 H6 (.not o2) (g15.trM g6) k6 r
  have hr4 : r ≠ 3 := fun e => by rw [e] at hc3; cases hc3
  have rm5 := rm4.pure g5
  have g15 : Gr [s] F H F5 H5 := g14.trM g5.w
  -- if way < 7
  refine q_when (b := decide ((r : Int) < 7)) (eb_test (K := K) (ed_op (ed_var rfl (.int _)) ed_int (rr_B (p := fun i j => decide (i < j))))) g5.fh (fun hc7 F6 H6 g6 => ?_) (fun hc7 F6 H6 g6 => ?_)
  · have hr7 := of_decide_eq_true hc7
    have rm6 := rm5.pure g6
    have g16 : Gr [s] F H F6 H6 := g15.trM g6.w
    refine qm0_set (em_say (ar := ar) (dp := d0) rfl rfl rfl rfl (ed_var rfl (r4.at g16.ff)) rfl rfl rm6 (by omega) (by omega) hm) fun v9 d F7 H7 g7 k7 a7 r9 => ?_
    obtain ⟨t1, rfl, o1⟩ := a7
    have rm7 := rm6.st g7 k7
    have g17 : Gr [s] F H F7 H7 := g16.trM g7
    refine qm0_set (em_say (ar := ar) (dp := d0) rfl rfl rfl rfl (ed_var rfl (r4.at g17.ff)) rfl rfl rm7 (by omega) (by omega) hm) fun v10 d F8 H8 g8 k8 a8 r10 => ?_
    obtain ⟨t2, rfl, o2⟩ := a8
    obtain ⟨c, wc, ed⟩ := ed_word3 (K := K) (r := r) (F := F8) (H := H8) (σ := [some (.ref s), some (.ref m), some v2, some v3, some v4, some (.int ((d0 + 1 : Nat) : Int)), some (.int mo), some (.int r), some (.str kd), some v9, some v10]) rfl (by omega)
    refine q_ret (K := K) (d := enc (.node c [t1, t2])) (ed_tup (ea_cons ed (ea_cons (ed_var rfl (r9.at g8.ff)) (ea_cons (ed_var rfl r10) ea_nil))) (show 3 ≤ 100000 by decide)) k8.fh fun v F9 H9 g9 r11 => ?_
    exact q (.node c [t1, t2]) v F9 H9 (.two wc o1 o2) ((g17.trM g8).trM g9.w) (k8.to g9) r11
  have hr7 := of_decide_eq_false hc7
  have rm6 := rm5.pure g6
  have g16 : Gr [s] F H F6 H6 := g15.trM g6.w
  obtain ⟨c, bc, ed⟩ := ed_word2 (K := K) (r := r) (F := F6) (H := H6) (σ := [some (.ref s), some (.ref m), some v2, some v3, some v4, some (.int ((d0 + 1 : Nat) : Int)), some (.int mo), some (.int r), some (.str kd), none, none]) rfl (by omega)
  refine ret3 rm6.sg ed rfl (.str kd) (fun F7 H7 g7 => em_say (ar := kd :: ar) (dp := d0) rfl rfl rfl rfl (ed_op (ed_lst (ea_cons (ed_var rfl (.str kd)) ea_nil) (by simp)) (ed_var rfl ((r4.at g16.ff).at g7.ff)) (rr_cat (by simp; omega))) rfl rfl (rm6.pure g7) (by rw [List.length_cons]; omega) (by omega) hm) fun v d F7 H7 g7 k7 a7 r => ?_
  obtain ⟨t2, rfl, o2⟩ := a7
  exact q (.bind c kd t2) v F7 H7 (.bind bc (rm.sk kd hkd) o2) (g16.trM g7) k7 r
theorem ok_Sy {f fD fT : Addr} {fd fdD fdT : FuncData} (D : Df K mg "_law_saying" sSy ["_law_state_here", "_law_makes_here", "_law_kinds_here", "_law_names", "_law_around", "_law_deep", "_law_most"] f fd) (DD : Df K mg "_law_draw" sDr ["_law_state_here", "_law_many"] fD fdD) (DT : Df K mg "_law_term" sTm ["_law_state_here", "_law_makes_here", "_law_kind", "_law_names", "_law_around", "_law_deep"] fT fdT) (GD : FnOk P w K mg base CX0 1 fD fdD ["_law_state_here", "_law_many"] spDraw)
    (GT : FnOk P w K mg base CX0 5 fT fdT ["_law_state_here", "_law_makes_here", "_law_kind", "_law_names", "_law_around", "_law_deep"] (spTerm K 3))
    (m_len : mg "len" = none) : ∀ n, FnOk P w K mg base CX0 (n + 6) f fd ["_law_state_here", "_law_makes_here", "_law_kinds_here", "_law_names", "_law_around", "_law_deep", "_law_most"] (spSaying K n) := by
  intro n
  induction n with
  | zero =>
    refine D.F.ok scSy (fun vs H Q E h => ?_) (fun cdv A outer s H vs Q E hr h => ?_)
    · obtain ⟨s, m, F, kn, xs, ar, v2, v3, v4, dp, mo, _, hj, _⟩ := h
      cases hj
    · obtain ⟨s, m, F, kn, xs, ar, v2, v3, v4, dp, mo, _, hj, _⟩ := h
      cases hj
  | succ n ih =>
    refine D.F.ok scSy (fun vs H Q E h => ?_) (fun cdv A outer s H vs Q E hr h => ⟨tSy K (spSaying K n), ?_, pure_Sy vs H Q E h⟩)
    · obtain ⟨s, m, F, kn, xs, ar, v2, v3, v4, dp, mo, rfl, _⟩ := h
      rfl
    · exact (pss_cons (ps_set (i := 7) scSy.nd rfl (Or.inl rfl) (pe_call GD (hr.mono (by omega)) (by rfl) DD.g DD.F.kp DD.b .nil pass0 (pa_cons (pv 0) (pa_cons pe_int pa_nil))))
    (pss_cons (ps_if (pt_cmpR op_eq (pv 7) pe_int (nomark _)) (pss_one (ps_ret (pe_tup (pa_cons pe_str pa_nil)))) pss_nil)
    (pss_cons (ps_set (i := 8) scSy.nd rfl (Or.inl rfl) (pe_ix ix_list (pv 2) (pe_call GD (hr.mono (by omega)) (by rfl) DD.g DD.F.kp DD.b .nil pass0 (pa_cons (pv 0) (pa_cons (pe_callB call_len_seq (by rfl) m_len (by decide +kernel) (pa_cons (pv 2) pa_nil)) pa_nil))) (fun _ _ => rfl)))
    (pss_cons (ps_if (PW.pt (pw_or (pt_cmpR op_lt (pv 7) pe_int (nomark _)) (pw_or1 (pt_cmpR op_eq (pv 5) pe_int (nomark _))))) (pss_cons (ps_set (i := 9) scSy.nd rfl (Or.inl rfl) (pe_call GT (hr.mono (by omega)) (by rfl) DT.g DT.F.kp DT.b .nil pass0 (pa_cons (pv 0) (pa_cons (pv 1) (pa_cons (pv 8) (pa_cons (pv 3) (pa_cons (pv 4) (pa_cons (pv 6) pa_nil))))))))
    (pss_one (ps_ret (pe_tup (pa_cons pe_str (pa_cons (pv 9) (pa_cons (pe_call GT (hr.mono (by omega)) (by rfl) DT.g DT.F.kp DT.b .nil pass0 (pa_cons (pv 0) (pa_cons (pv 1) (pa_cons (pv 8) (pa_cons (pv 3) (pa_cons (pv 4) (pa_cons (pv 6) pa_nil))))))) pa_nil))))))) pss_nil)
    (pss_cons (ps_if (pt_cmpR op_eq (pv 7) pe_int (nomark _)) (pss_one (ps_ret (pe_tup (pa_cons pe_str (pa_cons (pe_call ih hr (by rfl) D.g D.F.kp D.b .nil pass0 (pa_cons (pv 0) (pa_cons (pv 1) (pa_cons (pv 2) (pa_cons (pv 3) (pa_cons (pv 4) (pa_cons (pe_op op_sub (pv 5) pe_int) (pa_cons (pv 6) pa_nil)))))))) pa_nil))))) pss_nil)
    (pss_cons (ps_if (pt_cmpR op_lt (pv 7) pe_int (nomark _)) (pss_cons (ps_set (i := 9) scSy.nd rfl (Or.inl rfl) (pe_call ih hr (by rfl) D.g D.F.kp D.b .nil pass0 (pa_cons (pv 0) (pa_cons (pv 1) (pa_cons (pv 2) (pa_cons (pv 3) (pa_cons (pv 4) (pa_cons (pe_op op_sub (pv 5) pe_int) (pa_cons (pv 6) pa_nil)))))))))
    (pss_cons (ps_set (i := 10) scSy.nd rfl (Or.inl rfl) (pe_call ih hr (by rfl) D.g D.F.kp D.b .nil pass0 (pa_cons (pv 0) (pa_cons (pv 1) (pa_cons (pv 2) (pa_cons (pv 3) (pa_cons (pv 4) (pa_cons (pe_op op_sub (pv 5) pe_int) (pa_cons (pv 6) pa_nil)))))))))
    (pss_one (ps_ret (pe_tup (pa_cons (pe_ix ix_list (pe_lst (pa_cons pe_str (pa_cons pe_str (pa_cons pe_str pa_nil)))) (pe_op op_sub (pv 7) pe_int) (fun _ _ => rfl)) (pa_cons (pv 9) (pa_cons (pv 10) pa_nil)))))))) pss_nil)
    (pss_one (ps_ret (pe_tup (pa_cons (pe_ix ix_list (pe_lst (pa_cons pe_str (pa_cons pe_str pa_nil))) (pe_op op_sub (pv 7) pe_int) (fun _ _ => rfl)) (pa_cons (pv 8) (pa_cons (pe_call ih hr (by rfl) D.g D.F.kp D.b .nil pass0 (pa_cons (pv 0) (pa_cons (pv 1) (pa_cons (pv 2) (pa_cons (pv 3) (pa_cons (pe_op op_cat (pe_lst (pa_cons (pv 8) pa_nil)) (pv 4)) (pa_cons (pe_op op_sub (pv 5) pe_int) (pa_cons (pv 6) pa_nil)))))))) pa_nil))))))))))))
end
end Wk
/-! the names and the weight of what is opened. -/
namespace Wk
open PySem Tm
mutual
theorem names_open {T : Th} : ∀ {n : Nat} {t : Th} (k : Nat), Ok false n t → ∀ p ∈ names (exch none (some T) k t), p ∈ names t ∨ p ∈ names T
  | _, _, k, .lf (l := l) h1 h2, p, hp => by
    rw [exch] at hp
    split at hp
    · exact .inr hp
    · exact .inl hp
  | _, _, k, .made h1 h2 h3, p, hp => by
    rw [exch] at hp
    exact namess_open k h3 p hp
  | _, _, k, .bind h0 h1 h2 h3, p, hp => by
    rw [exch] at hp
    exact names_open (k + 1) h3 p hp
  | _, _, k, .node h1 h2 h3, p, hp => by
    rw [exch] at hp
    exact namess_open k h3 p hp
theorem namess_open {T : Th} : ∀ {n : Nat} {ts : List Th} (k : Nat), Oks false n ts → ∀ p ∈ namess (exchs none (some T) k ts), p ∈ namess ts ∨ p ∈ names T
  | _, _, k, .nil, p, hp => by
    rw [exchs] at hp
    cases hp
  | _, _, k, .cons h r, p, hp => by
    rw [exchs, namess] at hp
    rw [namess]
    rcases List.mem_append.mp hp with hp | hp
    · rcases names_open k h p hp with z | z
      · exact .inl (List.mem_append.mpr (.inl z))
      · exact .inr z
    · rcases namess_open k r p hp with z | z
      · exact .inl (List.mem_append.mpr (.inr z))
      · exact .inr z
end
mutual
theorem wt_open {T : Th} {B : Nat} (hB : 1 ≤ B) (hT : wt T ≤ B) : ∀ {n : Nat} {t : Th} (k : Nat), Ok false n t → wt (exch none (some T) k t) ≤ wt t * B
  | _, _, k, .lf (l := l) h1 h2 => by
    rw [exch]
    split
    · show wt T ≤ 1 * B
      omega
    · show 1 ≤ 1 * B
      omega
  | _, _, k, .made h1 h2 h3 => by
    rw [exch]
    exact wts_open hB hT k h3
  | _, _, k, .bind h0 h1 h2 h3 => by
    rw [exch]
    exact wt_open hB hT (k + 1) h3
  | _, _, k, .node h1 h2 h3 => by
    rw [exch]
    exact wts_open hB hT k h3
theorem wts_open {T : Th} {B : Nat} (hB : 1 ≤ B) (hT : wt T ≤ B) : ∀ {n : Nat} {ts : List Th} (k : Nat), Oks false n ts → wts (exchs none (some T) k ts) ≤ wts ts * B
  | _, _, k, .nil => by
    rw [exchs]
    exact Nat.zero_le _
  | _, _, k, .cons h r => by
    rw [exchs, wts, wts, Nat.add_mul]
    exact Nat.add_le_add (wt_open hB hT k h) (wts_open hB hT k r)
end
theorem nodup_len {α : Type} [BEq α] [LawfulBEq α] : ∀ (l m : List α), l.Nodup → (∀ x ∈ l, x ∈ m) → l.length ≤ m.length
  | [], m, _, _ => Nat.zero_le _
  | x :: l, m, nd, h => by
    obtain ⟨nx, nl⟩ := List.nodup_cons.mp nd
    have hx := h x List.mem_cons_self
    have z := nodup_len l (m.erase x) nl fun y hy => (List.mem_erase_of_ne (a := y) (b := x) (fun e => nx (by rw [← e]; exact hy))).mpr (h y (List.mem_cons_of_mem _ hy))
    rw [List.length_erase_of_mem hx] at z
    have : 0 < m.length := List.length_pos_of_mem hx
    rw [List.length_cons]
    omega
/-- names of these, of these kinds -/
def NmIn (xs kn : List Str) (ps : List (List Str)) : Prop := ∀ p ∈ ps, ∃ x k, x ∈ xs ∧ k ∈ kn ∧ So x ∧ So k ∧ p = [x, k]
theorem NmIn.more {xs ys kn : List Str} {ps : List (List Str)} (h : NmIn xs kn ps) (s : ∀ x ∈ xs, x ∈ ys) : NmIn ys kn ps := fun p hp => by
  obtain ⟨x, k, hx, hk⟩ := h p hp
  exact ⟨x, k, s x hx, hk⟩
theorem NmIn.so {xs kn : List Str} {ps : List (List Str)} (h : NmIn xs kn ps) : ∀ p ∈ ps, ∀ y ∈ p, So y := fun p hp y hy => by
  obtain ⟨x, k, hx, hk, sx, sk, rfl⟩ := h p hp
  rcases List.mem_cons.mp hy with rfl | hy
  · exact sx
  · rw [List.mem_singleton.mp hy]
    exact sk
def pairs (xs kn : List Str) : List (List Str) := xs.flatMap fun x => kn.map fun k => [x, k]
theorem pairs_len (kn : List Str) : ∀ xs : List Str, (pairs xs kn).length = xs.length * kn.length
  | [] => by simp [pairs]
  | x :: xs => by
    have := pairs_len kn xs
    unfold pairs at this ⊢
    rw [List.flatMap_cons, List.length_append, this, List.length_map, List.length_cons, Nat.succ_mul]
    omega
theorem NmIn.few {xs kn : List Str} {ps : List (List Str)} (h : NmIn xs kn ps) (hl : xs.length * kn.length < 64) : SetK.FewS ps := fun l nd hs => by
  have z := nodup_len l (pairs xs kn) nd fun p hp => by
    obtain ⟨x, k, hx, hk, _, _, rfl⟩ := h p (hs p hp)
    exact List.mem_flatMap.mpr ⟨x, hx, List.mem_map.mpr ⟨k, hk, rfl⟩⟩
  rw [pairs_len] at z
  omega
end Wk
namespace Wk
open PySem PySem.Spec PyProof.Rows L2 Ly Tm
abbrev rListD : List V → Hp → VK → Prop := fun xs H Q => ∃ (a : Addr) (kvs : List (Key × V)), xs = [.ref a] ∧ Rd H a (.dK kvs) ∧ ∀ p, H p = none → Q (.ref p) (upd H p (.lst (kvs.map fun kv => kV kv.1)))
section
variable {K : PySem.W.Frag} {s m : Addr} {F H F0 H0 F1 H1 : Hp} {σ : L2.St} {te ta tb : TE} {tt tu : TT} {tr : TA} {D : Ends} {tz : TS} {OkE : Str → List Str → Str → Prop} {n : Nat} {d e : PyData} {ds : List PyData}
theorem ed0_op2 {r : R2} {f : PyData} (ha : ED0 K ta σ F H d) (hb : ∀ F1 H1, Gr [] F H F1 H1 → ED0 K tb σ F1 H1 e) (hr : ∀ F1 H1, RR K r F1 H1 d e f) : ED0 K (tOp r ta tb) σ F H f := fun Q q =>
  ha _ fun v F1 H1 g1 r1 => hb F1 H1 g1 _ fun u F2 H2 g2 r2 => hr F2 H2 F2 H2 (.refl g2.fh) v u (r1.at g2.ff) r2 Q fun z F3 H3 g3 r3 => q z F3 H3 ((g1.tr g2).tr g3) r3
theorem q0_set {i : Nat} (h : ED0 K te σ F H d) (k : ∀ v F1 H1, Gr [] F H F1 H1 → R K F1 v d → tz D (σ.set i (some v)) H1) : tSeq (tAsg te (gName i)) tz D σ H := h _ k
theorem q_callA {sp : Sp} {i : Nat} (h : EA K tr σ F H ds) (sm : Same F H) (k : ∀ vs F1 H1, Gr [] F H F1 H1 → RA K F1 vs ds → sp vs H1 (fun v H2 => tz D (σ.set i (some v)) H2) E0) : tSeq (tAsg (tCall sp [] E0 tr) (gName i)) tz D σ H :=
  h.go sm fun vs F1 H1 g r => by
    show sp (vs ++ []) H1 _ E0
    rw [List.append_nil]
    exact k vs F1 H1 g r
theorem ed0_lcLF {α : Type} {xs : List α} {e f : α → PyData} {p : α → Bool} {tt : TT} {j : Nat} {vs : List Nat} (h : ED0 K te σ F H (.list (xs.map e))) (hz : xs.length ≤ 50000) (hw : ∀ x, wipe ((wipe σ vs).set j (some x)) vs = wipe σ vs)
    (ht : ∀ a x F1 H1, a ∈ xs → Bx F H F1 H1 → R K F1 x (e a) → EB tt ((wipe σ vs).set j (some x)) F1 H1 (p a))
    (he : ∀ a x F1 H1, a ∈ xs → p a = true → Bx F H F1 H1 → R K F1 x (e a) → ED K ta ((wipe σ vs).set j (some x)) F1 H1 (f a)) : ED0 K (tLc (iList K te) (gName j) tt ta vs) σ F H (.list ((xs.filter p).map f)) := fun Q q => by
  refine h _ fun v F2 H2 g2 r => ?_
  obtain ⟨a, ys, rfl, hs, ra⟩ := r.asLst
  refine ⟨a, rfl, ⟨ys, .inl (.inl (g2.fh _ _ hs))⟩, fun Dl nD => ?_⟩
  have hl : ys.length = xs.length := by rw [ra.len, List.length_map]
  refine lc_pure (xs := xs) (rel := fun a x => R K F2 x (e a)) (w := hl ▸ walk_list (K := K) (a := a) (xs := ys)) (fun i H x H' y => ⟨y.1, ?_⟩) g2.fh nD (fun F3 H3 g3 => .inl (.inl (g3.fh _ _ (g3.ff _ _ hs)))) hz hw (fun a x F3 H3 ha ra g3 => ht a x F3 H3 ha (g2.tr g3).bx (ra.at g3.ff)) (fun a x F3 H3 ha hp ra g3 => he a x F3 H3 ha hp (g2.tr g3).bx (ra.at g3.ff)) fun v F3 H3 g3 r3 => q v F3 H3 (g2.tr g3) r3
  obtain ⟨d, hd, rd⟩ := ra.back y.2
  obtain ⟨z, hz2, rfl⟩ := get_map hd
  exact ⟨z, hz2, rd⟩
theorem q0_forL {j : Nat} {tb : TS} (h : ED0 K te σ F H (.list ds))
    (k : ∀ F1 H1, Gr [] F H F1 H1 → ∃ Pv : Nat → L2.St → Hp → Prop, Pv 0 σ H1 ∧ (∀ i σ2 H2, Pv i σ2 H2 → ∃ F2, Same F2 H2 ∧ Same F1 F2) ∧
      (∀ i x d σ2 H2, ds[i]? = some d → R K F1 x d → Pv i σ2 H2 → tb { D with nx := Pv (i + 1), ct := Pv (i + 1), bk := tz D } (σ2.set j (some x)) H2) ∧ ∀ σ2 H2, Pv ds.length σ2 H2 → tz D σ2 H2) : tSeq (tFor (iList K te) (gName j) tb) tz D σ H := by
  refine h _ fun v F1 H1 g r => ?_
  obtain ⟨a, xs, rfl, hs, ra⟩ := r.asLst
  obtain ⟨Pv, p0, pk, ps, pd⟩ := k F1 H1 g
  refine ⟨a, rfl, ⟨xs, .inl (.inl (g.fh _ _ hs))⟩, for_list (xs := xs) (D := { D with nx := tz D }) Pv p0 (fun i σ2 H2 _ p => ?_) (fun i x σ2 H2 hx p => ?_) fun σ2 H2 p => ?_⟩
  · obtain ⟨F2, s1, s2⟩ := pk i σ2 H2 p
    exact .inl (.inl (s1 _ _ (s2 _ _ hs)))
  · obtain ⟨d, hd, rd⟩ := ra.back hx
    exact ps i x d σ2 H2 hd rd p
  · rw [ra.len] at p
    exact pd σ2 H2 p
theorem ra_ints : ∀ zs : List Int, RA K F (zs.map V.int) (zs.map .int)
  | [] => .nil
  | z :: zs => .cons (.int z) (ra_ints zs)
theorem ra_strs : ∀ zs : List Str, RA K F (zs.map V.str) (zs.map .str)
  | [] => .nil
  | z :: zs => .cons (.str z) (ra_strs zs)
theorem ed0_sl {i : Nat} {a : Addr} {ns : List Int} (lo hi : Int) (hi' : σ[i]? = some (some (.ref a))) : ∃ zs : List Int, zs.length ≤ ns.length ∧ ∀ F H, Same F H → SqL K H a (ns.map V.int) → ED0 K (tSl (rSlL K) (tVar i) (tPart (tC (.int lo))) (tPart (tC (.int hi)))) σ F H (.list (zs.map .int)) := by
  refine ⟨(ns.drop (HT.sIx (ns.map V.int).length 0 (some lo))).take (HT.sIx (ns.map V.int).length (ns.map V.int).length (some hi) - HT.sIx (ns.map V.int).length 0 (some lo)), ?_, fun F H sm hS Q q => ?_⟩
  · rw [List.length_take, List.length_drop]
    omega
  · refine ⟨.ref a, hi', lo, rfl, hi, rfl, a, ns.map V.int, rfl, hS, fun p np => ?_⟩
    have e : cutV (ns.map V.int) (some lo) (some hi) = ((ns.drop (HT.sIx (ns.map V.int).length 0 (some lo))).take (HT.sIx (ns.map V.int).length (ns.map V.int).length (some hi) - HT.sIx (ns.map V.int).length 0 (some lo))).map V.int := by
      unfold cutV
      rw [List.map_take, List.map_drop]
    rw [e]
    exact q (.ref p) _ _ ((Gr.refl sm).new np) (.lst upd_same (ra_ints _))
theorem keys_of {P : Str → Prop} : ∀ kvs : List (Key × V), (∀ p ∈ kvs, ∃ f, p.1 = Sum.inr f ∧ P f) → ∃ keys : List Str, (kvs.map fun kv => kV kv.1) = keys.map V.str ∧ keys.length = kvs.length ∧ ∀ f ∈ keys, P f
  | [], _ => ⟨[], rfl, rfl, fun _ z => nomatch z⟩
  | p :: kvs, h => by
    obtain ⟨f, e, hf⟩ := h p List.mem_cons_self
    obtain ⟨keys, e2, hl, hk⟩ := keys_of kvs fun q hq => h q (List.mem_cons_of_mem _ hq)
    refine ⟨f :: keys, by rw [List.map_cons, e2, e]; rfl, by rw [List.length_cons, hl]; rfl, fun g hg => ?_⟩
    rcases List.mem_cons.mp hg with rfl | hg
    · exact hf
    · exact hk g hg
theorem ed0_listD {i : Nat} {P : Str → Prop} (hP : ∀ f tk kd, OkE f tk kd → P f) (hi : σ[i]? = some (some (.ref m))) (k : Dk K F H m OkE n) : ∃ keys : List Str, keys.length ≤ n ∧ (∀ f ∈ keys, P f) ∧ ∀ F1 H1, Gr [] F H F1 H1 → ED0 K (tCB rListD (tCons (tVar i) tNil)) σ F1 H1 (.list (keys.map .str)) := by
  obtain ⟨kvs, h1, h2, h3, h4⟩ := k
  obtain ⟨keys, e, hl, hk⟩ := keys_of (P := P) kvs fun p hp => by
    obtain ⟨f, tk, kd, e, _, o⟩ := h4 p hp
    exact ⟨f, e, hP f tk kd o⟩
  refine ⟨keys, by omega, hk, fun F1 H1 g Q q => ⟨.ref m, hi, m, kvs, rfl, .inl (g.hh _ _ (fun z => nomatch z) h1), fun p np => ?_⟩⟩
  rw [e]
  exact q (.ref p) _ _ ((Gr.refl g.fh).new np) (.lst upd_same (ra_strs keys))
theorem em_lst {C : List PyData → Prop} (h : EMs K s tr σ F C) (hz : ∀ l, C l → l.length ≤ 100000) : EM K s (tLst tr) σ F (fun d => ∃ l, d = .list l ∧ C l) := fun F1 H1 sm k Q q =>
  h F1 H1 sm k _ fun vs ds F2 H2 g2 k2 c rs => ⟨by rw [rs.len]; exact Nat.le_trans (hz ds c) (by decide), fun p np => by
    have g4 : Gr [] F2 H2 (upd F2 p (.lst vs)) (upd H2 p (.lst vs)) := (Gr.refl k2.fh).new np
    exact q (.ref p) _ _ _ (g2.trM g4.w) (k2.to g4) ⟨ds, rfl, c⟩ (.lst upd_same (rs.at g4.ff))⟩
theorem em_pickN {H : Hp} {i j : Nat} {v : V} {α : Type} {xs : List α} {f : α → PyData} (hi : σ[i]? = some (some v)) (hj : σ[j]? = some (some (.ref s))) (r : R K F v (.list (xs.map f))) {n : Nat} (hn : n = xs.length) (h1 : 1 ≤ n) (h4 : n ≤ 1000) :
    EM K s (tOp (rIxL K) (tVar i) (tCall spDraw [] E0 (tCons (tVar j) (tCons (tC (.int n)) tNil)))) σ F (fun d => ∃ x ∈ xs, d = f x) := by
  subst hn
  refine em_op (em_of (H := H) (ed_var hi r) rfl (A := fun d => d = .list (xs.map f))) (fun F2 s2 => em_draw (m := xs.length) (H := H) hj ed_int h1 h4) ?_
  rintro d e rfl ⟨r, rfl, hr⟩
  exact ⟨_, ⟨xs[r], List.getElem_mem hr, rfl⟩, fun F5 H5 => rr_ixL (atI_map (List.getElem?_eq_getElem hr))⟩
end
abbrev sLaw : Stmt := topS 25
theorem scLaw : FnScope ["_law_script", "_law_state_here", "_law_ground", "_law_makes_here", "_law_kinds_here", "_law_words", "_law_before", "_law_cell", "_law_line", "_law_kind", "_law_most", "_law_names", "_law_body", "_law_term_here", "_law_saying_here", "_law_word_here"] ["_law_script"] (defScope sLaw) := ⟨rfl, rfl, rfl, by decide +kernel, rfl, by decide +kernel, by decide +kernel⟩
def tLaw (K : PySem.W.Frag) : TS :=
  (tSeq (tAsg (tCall spState [] E0 (tCons (tCall (spSeed K) [] E0 (tCons (tVar 0) (tCons (tC (.int 0)) tNil))) tNil)) (gName 1))
  (tSeq (tAsg (tCall (spGround K) [] E0 (tCons (tVar 1) tNil)) (gName 2))
  (tSeq (tAsg (tCall (spMakes K) [] E0 (tCons (tOp (rIxT K) (tVar 2) (tC (.int 0))) (tCons (tOp (rIxT K) (tVar 2) (tC (.int 1))) tNil))) (gName 3))
  (tSeq (tAsg (tLc (iList K (tOp (rIxT K) (tVar 2) (tC (.int 0)))) (gName 9) tYes (tOp (rIxT K) (tVar 9) (tC (.int 0))) [9]) (gName 4))
  (tSeq (tAsg (tOp rCat (tLst (tCons (tC (.str "zzz")) tNil)) (tLc (iList K (tOp rCat (tVar 4) (tCB rListD (tCons (tVar 3) tNil)))) (gName 15) (tTest (tOp rNe (tVar 15) (tC (.str "strange")))) (tVar 15) [15])) (gName 5))
  (tSeq (tAsg (tTup (tCons (tC (.str "no")) tNil)) (gName 6))
  (tSeq (tFor (iList K (tOp rCat (tLst (tCons (tC (.int 5)) (tCons (tC (.int 8)) tNil))) (tSl (rSlL K) (tVar 0) (tPart (tC (.int 1))) (tPart (tC (.int 40)))))) (gName 7) (tSeq (tAsg (tCall spState [] E0 (tCons (tVar 7) tNil)) (gName 8))
  (tSeq (tAsg (tOp (rIxL K) (tVar 4) (tCall spDraw [] E0 (tCons (tVar 8) (tCons (tCB (rLenOf K) (tCons (tVar 4) tNil)) tNil)))) (gName 9))
  (tSeq (tAsg (tOp (rI0 fun i j => .int (i + j)) (tC (.int 1)) (tCall spDraw [] E0 (tCons (tVar 8) (tCons (tC (.int 2)) tNil)))) (gName 10))
  (tSeq (tAsg (tLst (tCons (tC (.str "x")) (tCons (tC (.str "yy")) (tCons (tOp (rIxL K) (tVar 5) (tCall spDraw [] E0 (tCons (tVar 8) (tCons (tCB (rLenOf K) (tCons (tVar 5) tNil)) tNil)))) tNil)))) (gName 11))
  (tSeq (tAsg (tCall (spSaying K 3) [] E0 (tCons (tVar 8) (tCons (tVar 3) (tCons (tVar 4) (tCons (tVar 11) (tCons (tLst (tCons (tVar 9) tNil)) (tCons (tOp (rI0 fun i j => .int (i - j)) (tC (.int 3)) (tVar 10)) (tCons (tVar 10) tNil)))))))) (gName 12))
  (tSeq (tAsg (tCall (spTerm K 3) [] E0 (tCons (tVar 8) (tCons (tVar 3) (tCons (tVar 9) (tCons (tVar 11) (tCons (tLst tNil) (tCons (tCall spDraw [] E0 (tCons (tVar 8) (tCons (tC (.int 2)) tNil))) tNil))))))) (gName 13))
  (tSeq (tIfS (tNot (tB (tCall (SpD K ARi) [] E0 (tCons (tVar 12) (tCons (tVar 9) (tCons (tVar 13) (tCons (tOp (rIxL K) (tVar 11) (tCall spDraw [] E0 (tCons (tVar 8) (tCons (tC (.int 3)) tNil)))) tNil))))))) (tRet (tC (.bl false))) tNext)
  (tSeq (tAsg (tCall (SpD K (AOpen 20)) [] E0 (tCons (tVar 12) (tCons (tVar 13) tNil))) (gName 14))
  (tSeq (tIfS (tOr (tNot (tB (tCall (SpD K AFg) [] E0 (tCons (tLst (tCons (tVar 14) tNil)) tNil)))) (tOr (tNot (tB (tCall (SpD K AFg) [] E0 (tCons (tLst (tCons (tVar 6) (tCons (tVar 14) (tCons (tVar 6) tNil)))) tNil)))) (tTest (tOp (rNeD K) (tCall (SpL K (AFi 20)) [] E0 (tCons (tLst tNil) tNil)) (tLst tNil))))) (tRet (tC (.bl false))) tNext)
  (tAsg (tVar 14) (gName 6))))))))))))
  (tRet (tC (.bl true))))))))))
def spLaw (K : PySem.W.Frag) : Sp := fun vs H Q _ => ∃ (a : Addr) (ns : List Int), vs = [.ref a] ∧ SqL K H a (ns.map V.int) ∧ ns.length ≤ 63 ∧ ∀ H', Q (.bl true) H'
/-- a saying that was there before -/
def BfOk (kn : List Str) (t : Th) : Prop := Ok false 20 t ∧ wt t ≤ 200 ∧ ∃ w : Str, NmIn ["x", "yy", w] kn (names t)
theorem sset_nil : SetK.sset [] = [] := List.eq_nil_iff_forall_not_mem.mpr fun x hx => nomatch SetK.mem_sset.mp hx
theorem few_nil : SetK.FewS [] := fun l _ h => by
  cases l with
  | nil => exact (by decide : 0 < 64)
  | cons a b => exact nomatch h a List.mem_cons_self
theorem afg {kn xs : List Str} {ts : List Th} (h : ∀ t ∈ ts, Ok false 20 t ∧ wt t ≤ 200 ∧ NmIn xs kn (names t)) (hl : ts.length ≤ 3) (hx : xs.length ≤ 8) (hk : kn.length ≤ 4) : AFg [.list (ts.map enc)] (.bool true) := by
  have nm : NmIn xs kn (namess ts) := fun p hp => by
    obtain ⟨t, ht, hp⟩ := mem_namess hp
    exact (h t ht).2.2 p hp
  have hw := wts_le (B := 200) fun t ht => (h t ht).2.1
  have h2 : ts.length * 200 ≤ 3 * 200 := Nat.mul_le_mul_right _ hl
  have h3 : xs.length * kn.length ≤ 8 * 4 := Nat.mul_le_mul hx hk
  exact ⟨ts, fun t ht => (h t ht).1, by omega, by omega, nm.few (by omega), nm.so, rfl, rfl⟩
section
variable {P : Program} {w : World} {K : PySem.W.Frag} {mg : Str → Option Value} {base : Heap}
theorem pure_Law (vs : List V) (H0 : Hp) (Q : VK) (E : XK) (h : spLaw K vs H0 Q E) : tLaw K { nx := fun _ H' => Q .non H', rt := Q } (start ["_law_script", "_law_state_here", "_law_ground", "_law_makes_here", "_law_kinds_here", "_law_words", "_law_before", "_law_cell", "_law_line", "_law_kind", "_law_most", "_law_names", "_law_body", "_law_term_here", "_law_saying_here", "_law_word_here"] vs) H0 := by
  obtain ⟨a, ns, rfl, hS, hn, q⟩ := h
  have sm0 : Same (fun _ => none) H0 := fun b o e => nomatch e
  -- state = state(seed(script, 0))
  refine ⟨.ref a, rfl, a, ns, rfl, hS, fun c => ⟨c, fun _ => none, rfl, sm0, fun s H1 n1 g1 k1 => ?_⟩⟩
  -- ground
  refine ⟨.ref s, rfl, s, _, rfl, k1, fun ks ws v2 F2 H2 okk hk1 hk4 okw hw g2 k2 r2 => ?_⟩
  have g02 : Gr [] (fun _ => none) H0 F2 H2 := g1.trans g2 fun b hb => .inr (by rw [List.mem_singleton.mp hb]; exact n1)
  -- makes
  refine q_callA (K := K) (ea_cons (ed_op (ed_var rfl r2) ed_int (rr_ixT (atI_nat (j := 0) rfl))) (ea_cons (ed_op (ed_var rfl r2) ed_int (rr_ixT (atI_nat (j := 1) rfl))) ea_nil)) g02.fh fun vs F3 H3 g3 ra => ?_
  obtain ⟨u0, u1, rfl, ru0, ru1⟩ := ra.two
  refine ⟨F3, u0, u1, ks, ws, rfl, g3.fh, ru0, ru1, okk, hk4, okw, hw, fun m F4 H4 g4 nm dk4 => ?_⟩
  have g04 := (g02.tr g3).tr g4
  have r24 := (r2.at g3.ff).at g4.ff
  -- kinds_here
  refine q_set (K := K) (ed_lcL (xs := ks) (e := encK) (f := fun k => .str k.1) (ed_op (ed_var rfl r24) ed_int (rr_ixT (atI_nat (j := 0) rfl))) (by omega) (fun _ => rfl) (fun k x F5 H5 hk g5 rx => ed_op (ed_var rfl rx) ed_int (rr_ixT (atI_nat (j := 0) rfl)))) g04.fh fun v4 F5 H5 g5 r4 => ?_
  have eK : ks.map (fun k => PyData.str k.1) = (ks.map (·.1)).map .str := by
    rw [List.map_map]
    rfl
  rw [eK] at r4
  have g05 := g04.tr g5
  have dk5 := dk4.more g5 fun z => nomatch z
  have knS : ∀ k ∈ ks.map (·.1), So k := fun k hk => by
    obtain ⟨z, hz, rfl⟩ := List.mem_map.mp hk
    exact (okk z hz).1
  have kl : 1 ≤ (ks.map (·.1)).length ∧ (ks.map (·.1)).length ≤ 4 := by
    rw [List.length_map]
    exact ⟨hk1, hk4⟩
  generalize ks.map (·.1) = kn at r4 dk5 knS kl
  -- words
  obtain ⟨keys, hkl, hks, eks⟩ := ed0_listD (K := K) (P := So) (i := 3) (σ := [some (.ref a), some (.ref s), some v2, some (.ref m), some v4, none, none, none, none, none, none, none, none, none, none, none]) (fun f tk kd o => o.1) rfl dk5
  refine q0_set (K := K) (d := .list ((("zzz" : Str) :: (kn ++ keys).filter fun w => !decide (w = ("strange" : Str))).map .str)) (ed0_op2 (d := .list [.str "zzz"]) (e := .list (((kn ++ keys).filter fun w => !decide (w = ("strange" : Str))).map .str)) (ED.z (ed_lst (ea_cons ed_str ea_nil) (by simp)) g05.fh) (fun F6 H6 g6 => ed0_lcLF (xs := kn ++ keys) (e := .str) (f := .str) (ed0_op2 (d := .list (kn.map .str)) (e := .list (keys.map .str)) (ED.z (ed_var rfl (r4.at g6.ff)) g6.fh) (fun F7 H7 g7 => eks F7 H7 (g6.tr g7)) fun F7 H7 => ?_) (by rw [List.length_append]; omega) (fun _ => rfl) (fun x v F7 H7 hx g7 rx => eb_test (K := K) (ed_op (ed_var rfl rx) ed_str rr_neS)) (fun x v F7 H7 hx hp g7 rx => ed_var rfl rx)) fun F7 H7 => rr_cat ?_) fun v5 F6 H6 g6 r5 => ?_
  · rw [List.map_append]
    exact rr_cat (by rw [List.length_map, List.length_map]; omega)
  · rw [List.length_map]
    have := List.length_filter_le (fun w => !decide (w = ("strange" : Str))) (kn ++ keys)
    rw [List.length_append] at this
    show 1 + _ ≤ 100000
    omega
  have wS : ∀ x ∈ ("zzz" : Str) :: (kn ++ keys).filter (fun w => !decide (w = ("strange" : Str))), So x ∧ x ≠ "strange" := fun x hx => by
    rcases List.mem_cons.mp hx with rfl | hx
    · exact ⟨by decide +kernel, by decide +kernel⟩
    · obtain ⟨h1, h2⟩ := List.mem_filter.mp hx
      refine ⟨?_, fun e => by rw [e] at h2; revert h2; decide +kernel⟩
      rcases List.mem_append.mp h1 with h1 | h1
      · exact knS x h1
      · exact hks x h1
  have wL : 1 ≤ (("zzz" : Str) :: (kn ++ keys).filter (fun w => !decide (w = ("strange" : Str)))).length ∧ (("zzz" : Str) :: (kn ++ keys).filter (fun w => !decide (w = ("strange" : Str)))).length ≤ 1000 := by
    have := List.length_filter_le (fun w => !decide (w = ("strange" : Str))) (kn ++ keys)
    rw [List.length_append] at this
    rw [List.length_cons]
    omega
  generalize ("zzz" : Str) :: (kn ++ keys).filter (fun w => !decide (w = ("strange" : Str))) = wds at r5 wS wL
  have g06 := g05.tr g6
  -- before = ('no',)
  refine q_set (K := K) (d := enc (.node "no" [])) (ed_tup (ea_cons ed_str ea_nil) (show 1 ≤ 100000 by decide)) g06.fh fun v6 F7 H7 g7 r6 => ?_
  have g07 := g06.tr g7
  have sm7 : Same H0 H7 := fun b o e => g07.hh b o (fun z => nomatch z) e
  -- the loop
  obtain ⟨zs, hz, ezs⟩ := ed0_sl (K := K) (i := 0) (a := a) (ns := ns) (σ := [some (.ref a), some (.ref s), some v2, some (.ref m), some v4, some v5, some v6, none, none, none, none, none, none, none, none, none]) 1 40 rfl
  refine q0_forL (K := K) (ds := (5 :: 8 :: zs).map .int) (ed0_op2 (d := .list [.int 5, .int 8]) (e := .list (zs.map .int)) (ED.z (ed_lst (ea_cons ed_int (ea_cons ed_int ea_nil)) (by simp)) g07.fh) (fun F8 H8 g8 => ezs F8 H8 g8.fh (Same.seq (sm7.trans fun b o e => g8.hh b o (fun z => nomatch z) e) hS)) fun F8 H8 => rr_cat (by rw [List.length_map]; show 2 + _ ≤ 100000; omega)) fun F8 H8 g8 => ?_
  have dk8 := (dk5.more (g6.tr g7) fun z => nomatch z).more g8 fun z => nomatch z
  have r48 := ((r4.at g6.ff).at g7.ff).at g8.ff
  have r58 := (r5.at g7.ff).at g8.ff
  refine ⟨fun i σ2 H9 => ∃ F9 vb tb y7 y8 y9 y10 y11 y12 y13 y14, σ2 = [some (.ref a), some (.ref s), some v2, some (.ref m), some v4, some v5, some vb, y7, y8, y9, y10, y11, y12, y13, y14, none] ∧ Gr [] F8 H8 F9 H9 ∧ R K F9 vb (enc tb) ∧ BfOk kn tb,
    ⟨F8, v6, .node "no" [], none, none, none, none, none, none, none, none, rfl, Gr.refl g8.fh, r6.at g8.ff, .node (.inr (.inl rfl)) (by simp) .nil, Nat.zero_le _, "x", fun p hp => nomatch hp⟩, ?_, ?_, ?_⟩
  · rintro i σ2 H9 ⟨F9, vb, tb, y7, y8, y9, y10, y11, y12, y13, y14, rfl, g9, rb, bok⟩
    exact ⟨F9, g9.fh, g9.ff⟩
  · rintro i x d σ2 H9 hd rx ⟨F9, vb, tb, y7, y8, y9, y10, y11, y12, y13, y14, rfl, g9, rb, bok⟩
    obtain ⟨c, hc, rfl⟩ := get_map hd
    cases rx.asInt
    -- line = state(cell)
    refine ⟨.int c, rfl, c, F9, rfl, g9.fh, fun l H10 n10 g10 k10 => ?_⟩
    have h8s : H8 l = none := g9.dm l n10
    have go : ∀ {Fa Ha Fb Hb : Hp}, Gr [] F8 H8 Fa Ha → Gr [l] Fa Ha Fb Hb → Gr [] F8 H8 Fb Hb := fun ga gb => ga.trans gb fun b hb => .inr (by rw [List.mem_singleton.mp hb]; exact h8s)
    have G10 := g9.tr g10
    -- kind
    refine qm_set (K := K) (em_pick (H := H10) (xs := kn) (f := .str) rfl rfl (r48.at G10.ff) kl.1 (by omega)) k10 fun v9 d F11 H11 g11 k11 a11 r9 => ?_
    obtain ⟨kd, hkd, rfl⟩ := a11
    cases r9.asStr
    have G11 := go G10 g11
    -- most
    refine qm_set (K := K) (A := fun d => ∃ mo : Nat, d = .int mo ∧ 1 ≤ mo ∧ mo < 3) (em_op (em_of (H := H11) ed_int rfl (A := fun d => d = .int 1)) (fun F _ => em_draw (m := 2) (H := H11) rfl ed_int (by decide) (by decide)) ?_) k11 fun v10 d F12 H12 g12 k12 a12 r10 => ?_
    · rintro d e rfl ⟨r, rfl, hr⟩
      exact ⟨.int ((1 : Int) + (r : Int)), ⟨1 + r, congrArg PyData.int (by omega), by omega, by omega⟩, fun _ _ => rr_add⟩
    obtain ⟨mo, rfl, m1, m3⟩ := a12
    cases r10.asInt
    have G12 := go G11 g12
    -- names
    refine qm_set (K := K) (em_lst (ems_cons (em_of (H := H12) ed_str rfl (A := fun d => d = .str "x")) fun F s1 => ems_cons (em_of (H := H12) ed_str rfl (A := fun d => d = .str "yy")) fun F s2 => ems_cons (em_pick (H := H12) (xs := wds) (f := .str) rfl rfl ((r58.at G12.ff).at (s1.trans s2)) wL.1 wL.2) fun F _ => ems_nil) (fun l z => ?_)) k12 fun v11 d F13 H13 g13 k13 a13 r11 => ?_
    · obtain ⟨_, _, rfl, _, _, _, rfl, _, _, _, rfl, _, rfl⟩ := z
      show 3 ≤ 100000
      decide
    obtain ⟨_, rfl, _, _, rfl, rfl, _, _, rfl, rfl, _, _, rfl, ⟨wd, hwd, rfl⟩, rfl⟩ := a13
    have G13 := go G12 g13
    have sxs : ∀ x ∈ (["x", "yy", wd] : List Str), So x := fun x hx => by
      rcases List.mem_cons.mp hx with rfl | hx
      · decide +kernel
      · rcases List.mem_cons.mp hx with rfl | hx
        · decide +kernel
        · rw [List.mem_singleton.mp hx]
          exact (wS wd hwd).1
    have nostr : ("strange" : Str) ∉ (["x", "yy", wd] : List Str) := fun hx => by
      rcases List.mem_cons.mp hx with e | hx
      · revert e; decide +kernel
      · rcases List.mem_cons.mp hx with e | hx
        · revert e; decide +kernel
        · exact (wS wd hwd).2 (List.mem_singleton.mp hx).symm
    have r11' : R K F13 v11 (.list ((["x", "yy", wd] : List Str).map .str)) := r11
    have rm13 : Rm K l m F13 H13 kn ["x", "yy", wd] v4 v11 := ⟨k13, dk8.more G13 fun z => (nomatch z), r48.at G13.ff, kl.1, kl.2, knS, r11', show 1 ≤ 3 by decide, show 3 ≤ 4 by decide, sxs⟩
    generalize hxs : (["x", "yy", wd] : List Str) = xs at r11' rm13 sxs nostr
    have xsl : xs.length = 3 := by rw [← hxs]; rfl
    -- body
    refine ⟨.ref l, rfl, .ref m, rfl, v4, rfl, v11, rfl, (ed_lst (K := K) (ea_cons (ed_var rfl (.str kd)) ea_nil) (by simp)).go k13.fh fun vA F14 H14 g14 rA => ⟨.int mo, rfl, 3, mo, rfl, rfl, .int mo, rfl, l, m, F14, kn, xs, [kd], v4, v11, vA, 3 - mo, mo, ?_, by omega, m3, rm13.pure g14, rA, by show 1 + (3 - mo) ≤ 10; omega, fun B v12 F15 H15 okB g15 k15 r12 => ?_⟩⟩
    · show [V.ref l, .ref m, v4, v11, vA, .int (3 - (mo : Int)), .int mo] = [V.ref l, .ref m, v4, v11, vA, .int ((3 - mo : Nat) : Int), .int mo]
      rw [show ((3 - mo : Nat) : Int) = 3 - (mo : Int) by omega]
    have rm15 := (rm13.pure g14).st g15 k15
    have G15 := go (G13.tr g14) g15
    -- term
    refine ⟨.ref l, rfl, .ref m, rfl, .str kd, rfl, v11, rfl, (ed_lst (K := K) ea_nil (by simp)).go k15.fh fun vN F16 H16 g16 rN => (em_draw (K := K) (m := 2) (H := H16) rfl ed_int (by decide) (by decide)).go (k15.to g16) fun vj d F17 H17 g17 k17 a17 rj => ?_⟩
    obtain ⟨j, rfl, hj⟩ := a17
    cases rj.asInt
    have rm17 := (rm15.pure g16).st g17 k17
    have G17 := go (G15.tr g16) g17
    refine ⟨l, m, F17, kn, xs, [], kd, v11, vN, j, rfl, by omega, k17, rm17.dk, hkd, knS kd hkd, rm17.r3, rm17.x1, by omega, sxs, rN.at g17.ff, by decide, fun T v13 F18 H18 okT g18 k18 r13 => ?_⟩
    have G18 := go G17 g18
    have rm18 := rm17.st g18 k18
    have s58 : Same F15 F18 := (g16.ff.trans g17.ff).trans g18.ff
    have cs : ∀ x ∈ xs, Case B kd T x := fun x hx => ⟨okB.ok.up (by omega), okB.cl, okT.ok.up (by omega), okT.tc rfl, knS kd hkd, sxs x hx, okB.no _ nostr⟩
    -- if not right(..)
    dsimp only [gName]
    refine qm_when (s := l) (F := F18) (C := fun b => b = false) ?_ (fun F H hc _ _ => nomatch hc) (fun F19 H19 _ g19 k19 => ?_)
    · intro Q2 q2
      refine ⟨v12, rfl, .str kd, rfl, v13, rfl, (em_pickN (K := K) (H := H18) (n := 3) (xs := xs) (f := .str) rfl rfl rm18.r3 xsl.symm (by decide) (by decide)).go k18 fun vx d F20 H20 g20 k20 a20 rx => ?_⟩
      obtain ⟨x, hx, rfl⟩ := a20
      exact ⟨F20, [enc B, .str kd, enc T, .str x], .bool true, k20.fh, .cons ((r12.at s58).at g20.ff) (.cons (.str kd) (.cons (r13.at g20.ff) (.cons rx .nil))), ⟨B, kd, T, x, cs x hx, rfl, rfl⟩, fun v F21 H21 g21 r21 => ⟨true, r21.asBl, q2 false F21 H21 (g20.trM g21.w) (k20.to g21) rfl⟩⟩
    have G19 := go G18 g19
    have s59 := s58.trans g19.ff
    -- saying = opened(body, term)
    refine q_set (K := K) (ed_call (d := enc (exch none (some T) 0 B)) (ea_cons (ed_var rfl (r12.at s59)) (ea_cons (ed_var rfl (r13.at g19.ff)) ea_nil)) ⟨B, T, by decide, okB.ok.up (by omega), rfl, rfl⟩) k19.fh fun v14 F20 H20 g20 r14 => ?_
    have G20 := G19.tr g20
    have okS : Ok false 20 (exch none (some T) 0 B) := (exch_ok (b := some T) (m := 4) (fun T1 e => by cases e; exact okT.ok.up (by omega)) (by decide) none 0 okB.ok).up (by omega)
    have wtS : wt (exch none (some T) 0 B) ≤ 200 := by
      have h1 : wt T ≤ 3 := Nat.le_trans okT.wt (by
        have : j = 0 ∨ j = 1 := by omega
        rcases this with rfl | rfl <;> decide)
      have h2 := wt_open (T := T) (B := 3) (by decide) h1 0 okB.ok
      have h3 : wt B ≤ 36 := Nat.le_trans okB.wt (by
        have : mo = 1 ∨ mo = 2 := by omega
        rcases this with rfl | rfl <;> decide)
      omega
    have nmS : NmIn xs kn (names (exch none (some T) 0 B)) := fun p hp => by
      rcases names_open 0 okB.ok p hp with z | z
      · exact okB.nm p z
      · exact okT.nm p z
    generalize exch none (some T) 0 B = S at r14 okS wtS nmS
    obtain ⟨okb, wtb, wb, nmb⟩ := bok
    have rb20 := rb.at (g10.ff.trans (g11.ff.trans (g12.ff.trans (g13.ff.trans (g14.ff.trans (g15.ff.trans (s59.trans g20.ff)))))))
    have A1 : AFg [.list ([S].map enc)] (.bool true) := afg (xs := xs) (kn := kn) (fun t ht => by rw [List.mem_singleton.mp ht]; exact ⟨okS, wtS, nmS⟩) (show 1 ≤ 3 by decide) (by omega) kl.2
    have A2 : AFg [.list ([tb, S, tb].map enc)] (.bool true) := by
      refine afg (xs := (["x", "yy", wb] : List Str) ++ xs) (kn := kn) (fun t ht => ?_) (show 3 ≤ 3 by decide) (by rw [List.length_append, xsl]; show 6 ≤ 8; decide) kl.2
      have hb : Ok false 20 tb ∧ wt tb ≤ 200 ∧ NmIn ((["x", "yy", wb] : List Str) ++ xs) kn (names tb) := ⟨okb, wtb, nmb.more fun x hx => List.mem_append.mpr (.inl hx)⟩
      rcases List.mem_cons.mp ht with rfl | ht
      · exact hb
      · rcases List.mem_cons.mp ht with rfl | ht
        · exact ⟨okS, wtS, nmS.more fun x hx => List.mem_append.mpr (.inr hx)⟩
        · rw [List.mem_singleton.mp ht]
          exact hb
    have A3 : AFi 20 [.list []] [] := ⟨[], fun t z => (nomatch z), by decide, by decide, few_nil, rfl, by rw [show namess [] = [] from rfl, sset_nil]; rfl⟩
    have e0 : (!PyData.eqv (.list []) (.list [])) = false := ne_nil PyData.str []
    refine q_when (b := (!true || (!true || !PyData.eqv (.list []) (.list [])))) (eb_or (eb_not (eb_B (K := K) (ed_call (ea_cons (ed_lst (ea_cons (ed_var rfl r14) ea_nil) (by simp)) ea_nil) A1))) fun _ => eb_or (eb_not (eb_B (K := K) (ed_call (ea_cons (ed_lst (ea_cons (ed_var rfl rb20) (ea_cons (ed_var rfl r14) (ea_cons (ed_var rfl rb20) ea_nil))) (by simp)) ea_nil) A2))) fun _ => eb_test (K := K) (ed_op (ed_callL (ea_cons (ed_lst ea_nil (by simp)) ea_nil) A3) (ed_lst ea_nil (by simp)) (rr_neD shaped_nil shaped_nil))) g20.fh (fun e => by rw [e0] at e; cases e) (fun _ F21 H21 g21 => ?_)
    -- before = saying
    exact ⟨v14, rfl, F21, v14, S, _, _, _, _, _, _, _, _, rfl, G20.tr g21, r14.at g21.ff, okS, wtS, wd, by rw [hxs]; exact nmS⟩
  · rintro σ2 H9 ⟨F9, vb, tb, y7, y8, y9, y10, y11, y12, y13, y14, rfl, g9, rb, bok⟩
    exact q _
end
end Wk
namespace Wk
open PySem PySem.Spec PyProof.Rows L2 Ly Tm
section
variable {P : Program} {w : World} {K : PySem.W.Frag} {mg : Str → Option Value} {base : Heap}
theorem ok_Law {aB : Addr} {fExch : Addr} {fdExch : FuncData} {fOpen : Addr} {fdOpen : FuncData} {fShut : Addr} {fdShut : FuncData} {fPut : Addr} {fdPut : FuncData} {fNw : Addr} {fdNw : FuncData} {fFi : Addr} {fdFi : FuncData} {fSe : Addr} {fdSe : FuncData} {fSa : Addr} {fdSa : FuncData} {fDr : Addr} {fdDr : FuncData} {fWo : Addr} {fdWo : FuncData} {fKi : Addr} {fdKi : FuncData} {fWk : Addr} {fdWk : FuncData} {fMk : Addr} {fdMk : FuncData} {fGd : Addr} {fdGd : FuncData} {fTm : Addr} {fdTm : FuncData} {fSy : Addr} {fdSy : FuncData} {fNa : Addr} {fdNa : FuncData} {fLx : Addr} {fdLx : FuncData} {fUn : Addr} {fdUn : FuncData} {fFr : Addr} {fdFr : FuncData} {fRi : Addr} {fdRi : FuncData} {fFg : Addr} {fdFg : FuncData} {fLaw : Addr} {fdLaw : FuncData}
    (DExch : Df K mg "exchanged" sExch ["thing", "what", "by", "deep"] fExch fdExch)
    (DOpen : Df K mg "opened" sOpen ["body", "term"] fOpen fdOpen)
    (DShut : Df K mg "shut" sShut ["saying", "x", "kind"] fShut fdShut)
    (DPut : Df K mg "put_in" sPut ["saying", "x", "kind", "term"] fPut fdPut)
    (DNw : Df K mg "names_within" sNw ["thing"] fNw fdNw)
    (DFi : Df K mg "free_in" sFi ["sayings"] fFi fdFi)
    (DSe : Df K mg "_law_seed" sSe ["_law_script", "_law_k"] fSe fdSe)
    (DSa : Df K mg "_law_state" sSa ["_law_cell"] fSa fdSa)
    (DDr : Df K mg "_law_draw" sDr ["_law_state_here", "_law_many"] fDr fdDr)
    (DWo : Df K mg "_law_word" sWo ["_law_state_here", "_law_others"] fWo fdWo)
    (DKi : Df K mg "_law_kinds" sKi ["_law_state_here", "_law_taken"] fKi fdKi)
    (DWk : Df K mg "_law_works" sWk ["_law_state_here", "_law_kinds_here", "_law_taken"] fWk fdWk)
    (DMk : Df K mg "_law_makes" sMk ["_law_kinds_here", "_law_works_here"] fMk fdMk)
    (DGd : Df K mg "_law_drawn_ground" sGd ["_law_state_here"] fGd fdGd)
    (DTm : Df K mg "_law_term" sTm ["_law_state_here", "_law_makes_here", "_law_kind", "_law_names", "_law_around", "_law_deep"] fTm fdTm)
    (DSy : Df K mg "_law_saying" sSy ["_law_state_here", "_law_makes_here", "_law_kinds_here", "_law_names", "_law_around", "_law_deep", "_law_most"] fSy fdSy)
    (DNa : Df K mg "_law_named" sNa ["_law_thing", "_law_around"] fNa fdNa)
    (DLx : Df K mg "_law_exchanged" sLx ["_law_thing", "_law_old", "_law_new"] fLx fdLx)
    (DUn : Df K mg "_law_unnamed" sUn ["_law_thing", "_law_around"] fUn fdUn)
    (DFr : Df K mg "_law_free" sFr ["_law_thing"] fFr fdFr)
    (DRi : Df K mg "_law_right" sRi ["_law_body", "_law_kind", "_law_term_here", "_law_x"] fRi fdRi)
    (DFg : Df K mg "_law_free_right" sFg ["_law_sayings"] fFg fdFg)
    (DLaw : Df K mg "law" sLaw ["_law_script"] fLaw fdLaw)
    (gB : mg "BINDERS" = some (.ref aB)) (lB : ∀ H, SqT K H aB [.str "all", .str "some"]) (m_tuple : mg "tuple" = none) (m_len : mg "len" = none) (m_isinstance : mg "isinstance" = none) (m_set : mg "set" = none) (m_sorted : mg "sorted" = none) (m_list : mg "list" = none) (m_max : mg "max" = none) (m_min : mg "min" = none) (m_range : mg "range" = none) : FnOk P w K mg base CX0 24 fLaw fdLaw ["_law_script"] (spLaw K) := by
  have GE : FnOk P w K mg base CX0 21 fExch fdExch ["thing", "what", "by", "deep"] (SpD K (AExch 20)) := ok_exch DExch gB lB m_tuple 20
  have GOp : FnOk P w K mg base CX0 22 fOpen fdOpen ["body", "term"] (SpD K (AOpen 20)) := ok_Open (k := 21) (by decide) DOpen DExch GE
  have GSh : FnOk P w K mg base CX0 22 fShut fdShut ["saying", "x", "kind"] (SpD K (AShut 20)) := ok_Shut (k := 21) (by decide) DShut DExch GE
  have GPu : FnOk P w K mg base CX0 22 fPut fdPut ["saying", "x", "kind", "term"] (SpD K (APut 20)) := ok_Put (k := 21) (by decide) DPut DExch GE
  have GNw : FnOk P w K mg base CX0 21 fNw fdNw ["thing"] (SpL K (ANw 20)) := ok_nw DNw gB lB m_isinstance m_tuple 20
  have GFi : FnOk P w K mg base CX0 22 fFi fdFi ["sayings"] (SpL K (AFi 20)) := ok_fi (k := 21) (by decide) DFi DNw GNw m_set m_sorted
  have GSe : FnOk P w K mg base CX0 1 fSe fdSe ["_law_script", "_law_k"] (spSeed K) := ok_Se DSe m_len
  have GSa : FnOk P w K mg base CX0 1 fSa fdSa ["_law_cell"] spState := ok_Sa DSa m_max
  have GD : FnOk P w K mg base CX0 1 fDr fdDr ["_law_state_here", "_law_many"] spDraw := ok_Dr DDr
  have GW : FnOk P w K mg base CX0 2 fWo fdWo ["_law_state_here", "_law_others"] (spWord K) := ok_Wo (k := 0) DWo DDr GD m_range
  have GK : FnOk P w K mg base CX0 3 fKi fdKi ["_law_state_here", "_law_taken"] (spKinds K) := ok_Ki (k := 0) DKi DDr DWo GD GW m_range m_len m_min
  have GWk : FnOk P w K mg base CX0 3 fWk fdWk ["_law_state_here", "_law_kinds_here", "_law_taken"] (spWorks K) := ok_Wk (k := 0) DWk DDr DWo GD GW m_range m_len
  have GMk : FnOk P w K mg base CX0 1 fMk fdMk ["_law_kinds_here", "_law_works_here"] (spMakes K) := ok_Mk DMk
  have GGd : FnOk P w K mg base CX0 4 fGd fdGd ["_law_state_here"] (spGround K) := ok_Gd (k := 0) DGd DKi DWk GK GWk
  have GT := ok_Tm (P := P) (w := w) (base := base) DTm DDr GD m_range m_len m_tuple 3
  have GSy := ok_Sy (P := P) (w := w) (base := base) DSy DDr DTm GD GT m_len 3
  have GNa := ok_Na (P := P) (w := w) (base := base) DNa m_tuple m_len 20
  have GLx := ok_Lx (P := P) (w := w) (base := base) DLx m_tuple 20
  have GUn := ok_Un (P := P) (w := w) (base := base) DUn m_tuple 20
  have GFr := ok_Fr (P := P) (w := w) (base := base) DFr m_tuple m_isinstance 20
  have GRi := ok_Ri (P := P) (w := w) (base := base) DRi DNa DOpen DUn DLx DShut DPut GNa GOp GUn GLx GSh GPu
  have GFg := ok_Fg (P := P) (w := w) (base := base) DFg DFi DFr GFi GFr m_isinstance m_list m_sorted m_set
  refine DLaw.F.ok scLaw (fun vs H Q E h => ?_) (fun cdv A outer s H vs Q E hr h => ⟨tLaw K, ?_, pure_Law vs H Q E h⟩)
  · obtain ⟨a, ns, rfl, _⟩ := h
    rfl
  · exact (pss_cons (ps_set (i := 1) scLaw.nd rfl (Or.inl rfl) (pe_call GSa (hr.mono (by decide)) (by rfl) DSa.g DSa.F.kp DSa.b .nil pass0 (pa_cons (pe_call GSe (hr.mono (by decide)) (by rfl) DSe.g DSe.F.kp DSe.b .nil pass0 (pa_cons (pv 0) (pa_cons pe_int pa_nil))) pa_nil)))
    (pss_cons (ps_set (i := 2) scLaw.nd rfl (Or.inl rfl) (pe_call GGd (hr.mono (by decide)) (by rfl) DGd.g DGd.F.kp DGd.b .nil pass0 (pa_cons (pv 1) pa_nil)))
    (pss_cons (ps_set (i := 3) scLaw.nd rfl (Or.inl rfl) (pe_call GMk (hr.mono (by decide)) (by rfl) DMk.g DMk.F.kp DMk.b .nil pass0 (pa_cons (pe_ix ix_tup (pv 2) pe_int (fun _ _ => rfl)) (pa_cons (pe_ix ix_tup (pv 2) pe_int (fun _ _ => rfl)) pa_nil))))
    (pss_cons (ps_setLc (i := 4) (own := [("_law_kind", 9)]) (g := (gName 9)) (tt := tYes) (by rfl) scLaw.nd rfl rfl (sw_true rfl rfl rfl (by decide +kernel)) (pi_list (pe_ix ix_tup (pv 2) pe_int (fun _ _ => rfl))) (blkOk_by (own := [("_law_kind", 9)]) (N := ["_law_script", "_law_state_here", "_law_ground", "_law_makes_here", "_law_kinds_here", "_law_words", "_law_before", "_law_cell", "_law_line", "_law_kind", "_law_most", "_law_names", "_law_body", "_law_term_here", "_law_saying_here", "_law_word_here"]) (sc := defScope sLaw) (by decide +kernel)) (fun _ _ _ _ _ => (pg_name (i := 9) scLaw.nd rfl (Or.inl rfl))) (fun _ _ _ _ _ => pts_nil) (fun _ _ _ _ _ => (pe_ix ix_tup (pv 9) pe_int (fun _ _ => rfl))))
    (pss_cons (ps_set (i := 5) scLaw.nd rfl (Or.inl rfl) (pe_op op_cat (pe_lst (pa_cons pe_str pa_nil)) (pe_lc (own := [("_law_word_here", 15)]) (g := (gName 15)) (tt := (tTest (tOp rNe (tVar 15) (tC (.str "strange"))))) (by rfl) scLaw.nd (pi_list (pe_op op_cat (pv 4) (pe_callTy (call_listD (by rfl)) (by rfl) m_list (by decide +kernel) (pa_cons (pv 3) pa_nil)))) (blkOk_by (own := [("_law_word_here", 15)]) (N := ["_law_script", "_law_state_here", "_law_ground", "_law_makes_here", "_law_kinds_here", "_law_words", "_law_before", "_law_cell", "_law_line", "_law_kind", "_law_most", "_law_names", "_law_body", "_law_term_here", "_law_saying_here", "_law_word_here"]) (sc := defScope sLaw) (by decide +kernel)) (fun _ _ _ _ _ => (pg_name (i := 15) scLaw.nd rfl (Or.inl rfl))) (fun _ _ _ _ _ => (pts_one (pt_cmpR op_ne (pv 15) pe_str (nomark _)))) (fun _ _ _ _ _ => (pv 15)))))
    (pss_cons (ps_set (i := 6) scLaw.nd rfl (Or.inl rfl) (pe_tup (pa_cons pe_str pa_nil)))
    (pss_cons (ps_for PassesOwn.never (by rfl) (pi_list (pe_op op_cat (pe_lst (pa_cons pe_int (pa_cons pe_int pa_nil))) (pe_slice sl_list (pv 0) (po_some pe_int) (po_some pe_int)))) (pg_name (i := 7) scLaw.nd rfl (Or.inl rfl)) (pss_cons (ps_set (i := 8) scLaw.nd rfl (Or.inl rfl) (pe_call GSa (hr.mono (by decide)) (by rfl) DSa.g DSa.F.kp DSa.b .nil pass0 (pa_cons (pv 7) pa_nil)))
    (pss_cons (ps_set (i := 9) scLaw.nd rfl (Or.inl rfl) (pe_ix ix_list (pv 4) (pe_call GD (hr.mono (by decide)) (by rfl) DDr.g DDr.F.kp DDr.b .nil pass0 (pa_cons (pv 8) (pa_cons (pe_callB call_len_seq (by rfl) m_len (by decide +kernel) (pa_cons (pv 4) pa_nil)) pa_nil))) (fun _ _ => rfl)))
    (pss_cons (ps_set (i := 10) scLaw.nd rfl (Or.inl rfl) (pe_op op_add pe_int (pe_call GD (hr.mono (by decide)) (by rfl) DDr.g DDr.F.kp DDr.b .nil pass0 (pa_cons (pv 8) (pa_cons pe_int pa_nil)))))
    (pss_cons (ps_set (i := 11) scLaw.nd rfl (Or.inl rfl) (pe_lst (pa_cons pe_str (pa_cons pe_str (pa_cons (pe_ix ix_list (pv 5) (pe_call GD (hr.mono (by decide)) (by rfl) DDr.g DDr.F.kp DDr.b .nil pass0 (pa_cons (pv 8) (pa_cons (pe_callB call_len_seq (by rfl) m_len (by decide +kernel) (pa_cons (pv 5) pa_nil)) pa_nil))) (fun _ _ => rfl)) pa_nil)))))
    (pss_cons (ps_set (i := 12) scLaw.nd rfl (Or.inl rfl) (pe_call GSy (hr.mono (by decide)) (by rfl) DSy.g DSy.F.kp DSy.b .nil pass0 (pa_cons (pv 8) (pa_cons (pv 3) (pa_cons (pv 4) (pa_cons (pv 11) (pa_cons (pe_lst (pa_cons (pv 9) pa_nil)) (pa_cons (pe_op op_sub pe_int (pv 10)) (pa_cons (pv 10) pa_nil)))))))))
    (pss_cons (ps_set (i := 13) scLaw.nd rfl (Or.inl rfl) (pe_call GT (hr.mono (by decide)) (by rfl) DTm.g DTm.F.kp DTm.b .nil pass0 (pa_cons (pv 8) (pa_cons (pv 3) (pa_cons (pv 9) (pa_cons (pv 11) (pa_cons (pe_lst pa_nil) (pa_cons (pe_call GD (hr.mono (by decide)) (by rfl) DDr.g DDr.F.kp DDr.b .nil pass0 (pa_cons (pv 8) (pa_cons pe_int pa_nil))) pa_nil))))))))
    (pss_cons (ps_if (pt_not (pt_val (pe_call GRi (hr.mono (by decide)) (by rfl) DRi.g DRi.F.kp DRi.b .nil pass0 (pa_cons (pv 12) (pa_cons (pv 9) (pa_cons (pv 13) (pa_cons (pe_ix ix_list (pv 11) (pe_call GD (hr.mono (by decide)) (by rfl) DDr.g DDr.F.kp DDr.b .nil pass0 (pa_cons (pv 8) (pa_cons pe_int pa_nil))) (fun _ _ => rfl)) pa_nil))))))) (pss_one (ps_ret pe_bl)) pss_nil)
    (pss_cons (ps_set (i := 14) scLaw.nd rfl (Or.inl rfl) (pe_call GOp (hr.mono (by decide)) (by rfl) DOpen.g DOpen.F.kp DOpen.b .nil pass0 (pa_cons (pv 12) (pa_cons (pv 13) pa_nil))))
    (pss_cons (ps_if (PW.pt (pw_or (pt_not (pt_val (pe_call GFg (hr.mono (by decide)) (by rfl) DFg.g DFg.F.kp DFg.b .nil pass0 (pa_cons (pe_lst (pa_cons (pv 14) pa_nil)) pa_nil)))) (pw_or (pt_not (pt_val (pe_call GFg (hr.mono (by decide)) (by rfl) DFg.g DFg.F.kp DFg.b .nil pass0 (pa_cons (pe_lst (pa_cons (pv 6) (pa_cons (pv 14) (pa_cons (pv 6) pa_nil)))) pa_nil)))) (pw_or1 (pt_cmpR (op_neD hr.units) (pe_call GFi (hr.mono (by decide)) (by rfl) DFi.g DFi.F.kp DFi.b .nil pass0 (pa_cons (pe_lst pa_nil) pa_nil)) (pe_lst pa_nil) (nomark _)))))) (pss_one (ps_ret pe_bl)) pss_nil)
    (pss_one (ps_set (i := 6) scLaw.nd rfl (Or.inl rfl) (pv 14)))))))))))))
    (pss_one (ps_ret pe_bl)))))))))
end
/-! ### what the top has written -/
theorem df_mk {K : PySem.W.Frag} {h : Heap} {mg : Str → Option Value} {x : Str} {st : Stmt} {ps : List Str} {f : Addr} {od an : Option Addr} {sl : Array (Option Value)} {oc kV dc pm cd ct : Value} (X : K.In h) (G : h.Ns mainGlobals mg)
    (a : PySem.W.nsIn K mainGlobals x = some (some (.ref f))) (l : K.lookup f = some ⟨oc, od, .func (PySem.W.fnOf x x (defArgs st) (defBody st) (defScope st) .none kV dc pm an cd ct), sl⟩) (c : PySem.W.codeIn K cd x = true) (k : PySem.W.keepIn K (.ref f) = true)
    (b : ∀ fd, Fun K x x st f fd → Binds K fd ps []) : Df K mg x st ps f (PySem.W.fnOf x x (defArgs st) (defBody st) (defScope st) .none kV dc pm an cd ct) :=
  ⟨fun_mk (st := st) l c k, PySem.W.mg_of X G a, b _ (fun_mk (st := st) l c k)⟩
theorem all_mk {l : PySem.W.OpenLaw} {w : World} {K : PySem.W.Frag} {h : Heap} {mg : Str → Option Value} {fa aB : Addr} {ocB : Option Addr} {tB1 tB2 : Tok} {nB : Nat} {slB : Array (Option Value)} (X : K.In h) (G : h.Ns mainGlobals mg) (hfa : mg "law" = some (.ref fa))
    (aBB : PySem.W.nsIn K mainGlobals "BINDERS" = some (some (.ref aB))) (lBB : K.lookup aB = some ⟨.type "tuple", ocB, .seq #[.str "all" tB1, .str "some" tB2] nB, slB⟩)
    {f0 : Addr} {od0 an0 : Option Addr} {sl0 : Array (Option Value)} {oc0 kV0 dc0 pm0 cd0 ct0 : Value} (a0 : PySem.W.nsIn K mainGlobals "exchanged" = some (some (.ref f0))) (l0 : K.lookup f0 = some ⟨oc0, od0, .func (PySem.W.fnOf "exchanged" "exchanged" (defArgs sExch) (defBody sExch) (defScope sExch) .none kV0 dc0 pm0 an0 cd0 ct0), sl0⟩) (c0 : PySem.W.codeIn K cd0 "exchanged" = true) (k0 : PySem.W.keepIn K (.ref f0) = true)
    {f1 : Addr} {od1 an1 : Option Addr} {sl1 : Array (Option Value)} {oc1 kV1 dc1 pm1 cd1 ct1 : Value} (a1 : PySem.W.nsIn K mainGlobals "opened" = some (some (.ref f1))) (l1 : K.lookup f1 = some ⟨oc1, od1, .func (PySem.W.fnOf "opened" "opened" (defArgs sOpen) (defBody sOpen) (defScope sOpen) .none kV1 dc1 pm1 an1 cd1 ct1), sl1⟩) (c1 : PySem.W.codeIn K cd1 "opened" = true) (k1 : PySem.W.keepIn K (.ref f1) = true)
    {f2 : Addr} {od2 an2 : Option Addr} {sl2 : Array (Option Value)} {oc2 kV2 dc2 pm2 cd2 ct2 : Value} (a2 : PySem.W.nsIn K mainGlobals "shut" = some (some (.ref f2))) (l2 : K.lookup f2 = some ⟨oc2, od2, .func (PySem.W.fnOf "shut" "shut" (defArgs sShut) (defBody sShut) (defScope sShut) .none kV2 dc2 pm2 an2 cd2 ct2), sl2⟩) (c2 : PySem.W.codeIn K cd2 "shut" = true) (k2 : PySem.W.keepIn K (.ref f2) = true)
    {f3 : Addr} {od3 an3 : Option Addr} {sl3 : Array (Option Value)} {oc3 kV3 dc3 pm3 cd3 ct3 : Value} (a3 : PySem.W.nsIn K mainGlobals "put_in" = some (some (.ref f3))) (l3 : K.lookup f3 = some ⟨oc3, od3, .func (PySem.W.fnOf "put_in" "put_in" (defArgs sPut) (defBody sPut) (defScope sPut) .none kV3 dc3 pm3 an3 cd3 ct3), sl3⟩) (c3 : PySem.W.codeIn K cd3 "put_in" = true) (k3 : PySem.W.keepIn K (.ref f3) = true)
    {f4 : Addr} {od4 an4 : Option Addr} {sl4 : Array (Option Value)} {oc4 kV4 dc4 pm4 cd4 ct4 : Value} (a4 : PySem.W.nsIn K mainGlobals "names_within" = some (some (.ref f4))) (l4 : K.lookup f4 = some ⟨oc4, od4, .func (PySem.W.fnOf "names_within" "names_within" (defArgs sNw) (defBody sNw) (defScope sNw) .none kV4 dc4 pm4 an4 cd4 ct4), sl4⟩) (c4 : PySem.W.codeIn K cd4 "names_within" = true) (k4 : PySem.W.keepIn K (.ref f4) = true)
    {f5 : Addr} {od5 an5 : Option Addr} {sl5 : Array (Option Value)} {oc5 kV5 dc5 pm5 cd5 ct5 : Value} (a5 : PySem.W.nsIn K mainGlobals "free_in" = some (some (.ref f5))) (l5 : K.lookup f5 = some ⟨oc5, od5, .func (PySem.W.fnOf "free_in" "free_in" (defArgs sFi) (defBody sFi) (defScope sFi) .none kV5 dc5 pm5 an5 cd5 ct5), sl5⟩) (c5 : PySem.W.codeIn K cd5 "free_in" = true) (k5 : PySem.W.keepIn K (.ref f5) = true)
    {f6 : Addr} {od6 an6 : Option Addr} {sl6 : Array (Option Value)} {oc6 kV6 dc6 pm6 cd6 ct6 : Value} (a6 : PySem.W.nsIn K mainGlobals "_law_seed" = some (some (.ref f6))) (l6 : K.lookup f6 = some ⟨oc6, od6, .func (PySem.W.fnOf "_law_seed" "_law_seed" (defArgs sSe) (defBody sSe) (defScope sSe) .none kV6 dc6 pm6 an6 cd6 ct6), sl6⟩) (c6 : PySem.W.codeIn K cd6 "_law_seed" = true) (k6 : PySem.W.keepIn K (.ref f6) = true)
    {f7 : Addr} {od7 an7 : Option Addr} {sl7 : Array (Option Value)} {oc7 kV7 dc7 pm7 cd7 ct7 : Value} (a7 : PySem.W.nsIn K mainGlobals "_law_state" = some (some (.ref f7))) (l7 : K.lookup f7 = some ⟨oc7, od7, .func (PySem.W.fnOf "_law_state" "_law_state" (defArgs sSa) (defBody sSa) (defScope sSa) .none kV7 dc7 pm7 an7 cd7 ct7), sl7⟩) (c7 : PySem.W.codeIn K cd7 "_law_state" = true) (k7 : PySem.W.keepIn K (.ref f7) = true)
    {f8 : Addr} {od8 an8 : Option Addr} {sl8 : Array (Option Value)} {oc8 kV8 dc8 pm8 cd8 ct8 : Value} (a8 : PySem.W.nsIn K mainGlobals "_law_draw" = some (some (.ref f8))) (l8 : K.lookup f8 = some ⟨oc8, od8, .func (PySem.W.fnOf "_law_draw" "_law_draw" (defArgs sDr) (defBody sDr) (defScope sDr) .none kV8 dc8 pm8 an8 cd8 ct8), sl8⟩) (c8 : PySem.W.codeIn K cd8 "_law_draw" = true) (k8 : PySem.W.keepIn K (.ref f8) = true)
    {f9 : Addr} {od9 an9 : Option Addr} {sl9 : Array (Option Value)} {oc9 kV9 dc9 pm9 cd9 ct9 : Value} (a9 : PySem.W.nsIn K mainGlobals "_law_word" = some (some (.ref f9))) (l9 : K.lookup f9 = some ⟨oc9, od9, .func (PySem.W.fnOf "_law_word" "_law_word" (defArgs sWo) (defBody sWo) (defScope sWo) .none kV9 dc9 pm9 an9 cd9 ct9), sl9⟩) (c9 : PySem.W.codeIn K cd9 "_law_word" = true) (k9 : PySem.W.keepIn K (.ref f9) = true)
    {f10 : Addr} {od10 an10 : Option Addr} {sl10 : Array (Option Value)} {oc10 kV10 dc10 pm10 cd10 ct10 : Value} (a10 : PySem.W.nsIn K mainGlobals "_law_kinds" = some (some (.ref f10))) (l10 : K.lookup f10 = some ⟨oc10, od10, .func (PySem.W.fnOf "_law_kinds" "_law_kinds" (defArgs sKi) (defBody sKi) (defScope sKi) .none kV10 dc10 pm10 an10 cd10 ct10), sl10⟩) (c10 : PySem.W.codeIn K cd10 "_law_kinds" = true) (k10 : PySem.W.keepIn K (.ref f10) = true)
    {f11 : Addr} {od11 an11 : Option Addr} {sl11 : Array (Option Value)} {oc11 kV11 dc11 pm11 cd11 ct11 : Value} (a11 : PySem.W.nsIn K mainGlobals "_law_works" = some (some (.ref f11))) (l11 : K.lookup f11 = some ⟨oc11, od11, .func (PySem.W.fnOf "_law_works" "_law_works" (defArgs sWk) (defBody sWk) (defScope sWk) .none kV11 dc11 pm11 an11 cd11 ct11), sl11⟩) (c11 : PySem.W.codeIn K cd11 "_law_works" = true) (k11 : PySem.W.keepIn K (.ref f11) = true)
    {f12 : Addr} {od12 an12 : Option Addr} {sl12 : Array (Option Value)} {oc12 kV12 dc12 pm12 cd12 ct12 : Value} (a12 : PySem.W.nsIn K mainGlobals "_law_makes" = some (some (.ref f12))) (l12 : K.lookup f12 = some ⟨oc12, od12, .func (PySem.W.fnOf "_law_makes" "_law_makes" (defArgs sMk) (defBody sMk) (defScope sMk) .none kV12 dc12 pm12 an12 cd12 ct12), sl12⟩) (c12 : PySem.W.codeIn K cd12 "_law_makes" = true) (k12 : PySem.W.keepIn K (.ref f12) = true)
    {f13 : Addr} {od13 an13 : Option Addr} {sl13 : Array (Option Value)} {oc13 kV13 dc13 pm13 cd13 ct13 : Value} (a13 : PySem.W.nsIn K mainGlobals "_law_drawn_ground" = some (some (.ref f13))) (l13 : K.lookup f13 = some ⟨oc13, od13, .func (PySem.W.fnOf "_law_drawn_ground" "_law_drawn_ground" (defArgs sGd) (defBody sGd) (defScope sGd) .none kV13 dc13 pm13 an13 cd13 ct13), sl13⟩) (c13 : PySem.W.codeIn K cd13 "_law_drawn_ground" = true) (k13 : PySem.W.keepIn K (.ref f13) = true)
    {f14 : Addr} {od14 an14 : Option Addr} {sl14 : Array (Option Value)} {oc14 kV14 dc14 pm14 cd14 ct14 : Value} (a14 : PySem.W.nsIn K mainGlobals "_law_term" = some (some (.ref f14))) (l14 : K.lookup f14 = some ⟨oc14, od14, .func (PySem.W.fnOf "_law_term" "_law_term" (defArgs sTm) (defBody sTm) (defScope sTm) .none kV14 dc14 pm14 an14 cd14 ct14), sl14⟩) (c14 : PySem.W.codeIn K cd14 "_law_term" = true) (k14 : PySem.W.keepIn K (.ref f14) = true)
    {f15 : Addr} {od15 an15 : Option Addr} {sl15 : Array (Option Value)} {oc15 kV15 dc15 pm15 cd15 ct15 : Value} (a15 : PySem.W.nsIn K mainGlobals "_law_saying" = some (some (.ref f15))) (l15 : K.lookup f15 = some ⟨oc15, od15, .func (PySem.W.fnOf "_law_saying" "_law_saying" (defArgs sSy) (defBody sSy) (defScope sSy) .none kV15 dc15 pm15 an15 cd15 ct15), sl15⟩) (c15 : PySem.W.codeIn K cd15 "_law_saying" = true) (k15 : PySem.W.keepIn K (.ref f15) = true)
    {f16 : Addr} {od16 an16 : Option Addr} {sl16 : Array (Option Value)} {oc16 kV16 dc16 pm16 cd16 ct16 : Value} (a16 : PySem.W.nsIn K mainGlobals "_law_named" = some (some (.ref f16))) (l16 : K.lookup f16 = some ⟨oc16, od16, .func (PySem.W.fnOf "_law_named" "_law_named" (defArgs sNa) (defBody sNa) (defScope sNa) .none kV16 dc16 pm16 an16 cd16 ct16), sl16⟩) (c16 : PySem.W.codeIn K cd16 "_law_named" = true) (k16 : PySem.W.keepIn K (.ref f16) = true)
    {f17 : Addr} {od17 an17 : Option Addr} {sl17 : Array (Option Value)} {oc17 kV17 dc17 pm17 cd17 ct17 : Value} (a17 : PySem.W.nsIn K mainGlobals "_law_exchanged" = some (some (.ref f17))) (l17 : K.lookup f17 = some ⟨oc17, od17, .func (PySem.W.fnOf "_law_exchanged" "_law_exchanged" (defArgs sLx) (defBody sLx) (defScope sLx) .none kV17 dc17 pm17 an17 cd17 ct17), sl17⟩) (c17 : PySem.W.codeIn K cd17 "_law_exchanged" = true) (k17 : PySem.W.keepIn K (.ref f17) = true)
    {f18 : Addr} {od18 an18 : Option Addr} {sl18 : Array (Option Value)} {oc18 kV18 dc18 pm18 cd18 ct18 : Value} (a18 : PySem.W.nsIn K mainGlobals "_law_unnamed" = some (some (.ref f18))) (l18 : K.lookup f18 = some ⟨oc18, od18, .func (PySem.W.fnOf "_law_unnamed" "_law_unnamed" (defArgs sUn) (defBody sUn) (defScope sUn) .none kV18 dc18 pm18 an18 cd18 ct18), sl18⟩) (c18 : PySem.W.codeIn K cd18 "_law_unnamed" = true) (k18 : PySem.W.keepIn K (.ref f18) = true)
    {f19 : Addr} {od19 an19 : Option Addr} {sl19 : Array (Option Value)} {oc19 kV19 dc19 pm19 cd19 ct19 : Value} (a19 : PySem.W.nsIn K mainGlobals "_law_free" = some (some (.ref f19))) (l19 : K.lookup f19 = some ⟨oc19, od19, .func (PySem.W.fnOf "_law_free" "_law_free" (defArgs sFr) (defBody sFr) (defScope sFr) .none kV19 dc19 pm19 an19 cd19 ct19), sl19⟩) (c19 : PySem.W.codeIn K cd19 "_law_free" = true) (k19 : PySem.W.keepIn K (.ref f19) = true)
    {f20 : Addr} {od20 an20 : Option Addr} {sl20 : Array (Option Value)} {oc20 kV20 dc20 pm20 cd20 ct20 : Value} (a20 : PySem.W.nsIn K mainGlobals "_law_right" = some (some (.ref f20))) (l20 : K.lookup f20 = some ⟨oc20, od20, .func (PySem.W.fnOf "_law_right" "_law_right" (defArgs sRi) (defBody sRi) (defScope sRi) .none kV20 dc20 pm20 an20 cd20 ct20), sl20⟩) (c20 : PySem.W.codeIn K cd20 "_law_right" = true) (k20 : PySem.W.keepIn K (.ref f20) = true)
    {f21 : Addr} {od21 an21 : Option Addr} {sl21 : Array (Option Value)} {oc21 kV21 dc21 pm21 cd21 ct21 : Value} (a21 : PySem.W.nsIn K mainGlobals "_law_free_right" = some (some (.ref f21))) (l21 : K.lookup f21 = some ⟨oc21, od21, .func (PySem.W.fnOf "_law_free_right" "_law_free_right" (defArgs sFg) (defBody sFg) (defScope sFg) .none kV21 dc21 pm21 an21 cd21 ct21), sl21⟩) (c21 : PySem.W.codeIn K cd21 "_law_free_right" = true) (k21 : PySem.W.keepIn K (.ref f21) = true)
    {f22 : Addr} {od22 an22 : Option Addr} {sl22 : Array (Option Value)} {oc22 kV22 dc22 pm22 cd22 ct22 : Value} (a22 : PySem.W.nsIn K mainGlobals "law" = some (some (.ref f22))) (l22 : K.lookup f22 = some ⟨oc22, od22, .func (PySem.W.fnOf "law" "law" (defArgs sLaw) (defBody sLaw) (defScope sLaw) .none kV22 dc22 pm22 an22 cd22 ct22), sl22⟩) (c22 : PySem.W.codeIn K cd22 "law" = true) (k22 : PySem.W.keepIn K (.ref f22) = true)
    (z0 : PySem.W.nsIn K mainGlobals "tuple" = some none)
    (z1 : PySem.W.nsIn K mainGlobals "len" = some none)
    (z2 : PySem.W.nsIn K mainGlobals "isinstance" = some none)
    (z3 : PySem.W.nsIn K mainGlobals "set" = some none)
    (z4 : PySem.W.nsIn K mainGlobals "sorted" = some none)
    (z5 : PySem.W.nsIn K mainGlobals "list" = some none)
    (z6 : PySem.W.nsIn K mainGlobals "max" = some none)
    (z7 : PySem.W.nsIn K mainGlobals "min" = some none)
    (z8 : PySem.W.nsIn K mainGlobals "range" = some none) :
    ∃ fd : FuncData, (∀ (s : Shared) (v : Value), BindsTo s fd ⟨[v], []⟩ [("_law_script", v)]) ∧ ∀ base : Heap, K.In base → base.Ns mainGlobals mg → FnOk l.prog w K mg base CX0 24 fa fd ["_law_script"] (spLaw K) := by
  have e := hfa.symm.trans (PySem.W.mg_of X G a22)
  cases e
  have D0 := df_mk (x := "exchanged") (st := sExch) (ps := ["thing", "what", "by", "deep"]) X G a0 l0 c0 k0 fun _ F => F.binds (ps := ["thing", "what", "by", "deep"]) fun _ _ _ _ _ _ us hl => match us, hl with | [_, _, _, _], _ => rfl
  have D1 := df_mk (x := "opened") (st := sOpen) (ps := ["body", "term"]) X G a1 l1 c1 k1 fun _ F => F.binds (ps := ["body", "term"]) fun _ _ _ _ _ _ us hl => match us, hl with | [_, _], _ => rfl
  have D2 := df_mk (x := "shut") (st := sShut) (ps := ["saying", "x", "kind"]) X G a2 l2 c2 k2 fun _ F => F.binds (ps := ["saying", "x", "kind"]) fun _ _ _ _ _ _ us hl => match us, hl with | [_, _, _], _ => rfl
  have D3 := df_mk (x := "put_in") (st := sPut) (ps := ["saying", "x", "kind", "term"]) X G a3 l3 c3 k3 fun _ F => F.binds (ps := ["saying", "x", "kind", "term"]) fun _ _ _ _ _ _ us hl => match us, hl with | [_, _, _, _], _ => rfl
  have D4 := df_mk (x := "names_within") (st := sNw) (ps := ["thing"]) X G a4 l4 c4 k4 fun _ F => F.binds (ps := ["thing"]) fun _ _ _ _ _ _ us hl => match us, hl with | [_], _ => rfl
  have D5 := df_mk (x := "free_in") (st := sFi) (ps := ["sayings"]) X G a5 l5 c5 k5 fun _ F => F.binds (ps := ["sayings"]) fun _ _ _ _ _ _ us hl => match us, hl with | [_], _ => rfl
  have D6 := df_mk (x := "_law_seed") (st := sSe) (ps := ["_law_script", "_law_k"]) X G a6 l6 c6 k6 fun _ F => F.binds (ps := ["_law_script", "_law_k"]) fun _ _ _ _ _ _ us hl => match us, hl with | [_, _], _ => rfl
  have D7 := df_mk (x := "_law_state") (st := sSa) (ps := ["_law_cell"]) X G a7 l7 c7 k7 fun _ F => F.binds (ps := ["_law_cell"]) fun _ _ _ _ _ _ us hl => match us, hl with | [_], _ => rfl
  have D8 := df_mk (x := "_law_draw") (st := sDr) (ps := ["_law_state_here", "_law_many"]) X G a8 l8 c8 k8 fun _ F => F.binds (ps := ["_law_state_here", "_law_many"]) fun _ _ _ _ _ _ us hl => match us, hl with | [_, _], _ => rfl
  have D9 := df_mk (x := "_law_word") (st := sWo) (ps := ["_law_state_here", "_law_others"]) X G a9 l9 c9 k9 fun _ F => F.binds (ps := ["_law_state_here", "_law_others"]) fun _ _ _ _ _ _ us hl => match us, hl with | [_, _], _ => rfl
  have D10 := df_mk (x := "_law_kinds") (st := sKi) (ps := ["_law_state_here", "_law_taken"]) X G a10 l10 c10 k10 fun _ F => F.binds (ps := ["_law_state_here", "_law_taken"]) fun _ _ _ _ _ _ us hl => match us, hl with | [_, _], _ => rfl
  have D11 := df_mk (x := "_law_works") (st := sWk) (ps := ["_law_state_here", "_law_kinds_here", "_law_taken"]) X G a11 l11 c11 k11 fun _ F => F.binds (ps := ["_law_state_here", "_law_kinds_here", "_law_taken"]) fun _ _ _ _ _ _ us hl => match us, hl with | [_, _, _], _ => rfl
  have D12 := df_mk (x := "_law_makes") (st := sMk) (ps := ["_law_kinds_here", "_law_works_here"]) X G a12 l12 c12 k12 fun _ F => F.binds (ps := ["_law_kinds_here", "_law_works_here"]) fun _ _ _ _ _ _ us hl => match us, hl with | [_, _], _ => rfl
  have D13 := df_mk (x := "_law_drawn_ground") (st := sGd) (ps := ["_law_state_here"]) X G a13 l13 c13 k13 fun _ F => F.binds (ps := ["_law_state_here"]) fun _ _ _ _ _ _ us hl => match us, hl with | [_], _ => rfl
  have D14 := df_mk (x := "_law_term") (st := sTm) (ps := ["_law_state_here", "_law_makes_here", "_law_kind", "_law_names", "_law_around", "_law_deep"]) X G a14 l14 c14 k14 fun _ F => F.binds (ps := ["_law_state_here", "_law_makes_here", "_law_kind", "_law_names", "_law_around", "_law_deep"]) fun _ _ _ _ _ _ us hl => match us, hl with | [_, _, _, _, _, _], _ => rfl
  have D15 := df_mk (x := "_law_saying") (st := sSy) (ps := ["_law_state_here", "_law_makes_here", "_law_kinds_here", "_law_names", "_law_around", "_law_deep", "_law_most"]) X G a15 l15 c15 k15 fun _ F => F.binds (ps := ["_law_state_here", "_law_makes_here", "_law_kinds_here", "_law_names", "_law_around", "_law_deep", "_law_most"]) fun _ _ _ _ _ _ us hl => match us, hl with | [_, _, _, _, _, _, _], _ => rfl
  have D16 := df_mk (x := "_law_named") (st := sNa) (ps := ["_law_thing", "_law_around"]) X G a16 l16 c16 k16 fun _ F => F.binds (ps := ["_law_thing", "_law_around"]) fun _ _ _ _ _ _ us hl => match us, hl with | [_, _], _ => rfl
  have D17 := df_mk (x := "_law_exchanged") (st := sLx) (ps := ["_law_thing", "_law_old", "_law_new"]) X G a17 l17 c17 k17 fun _ F => F.binds (ps := ["_law_thing", "_law_old", "_law_new"]) fun _ _ _ _ _ _ us hl => match us, hl with | [_, _, _], _ => rfl
  have D18 := df_mk (x := "_law_unnamed") (st := sUn) (ps := ["_law_thing", "_law_around"]) X G a18 l18 c18 k18 fun _ F => F.binds (ps := ["_law_thing", "_law_around"]) fun _ _ _ _ _ _ us hl => match us, hl with | [_, _], _ => rfl
  have D19 := df_mk (x := "_law_free") (st := sFr) (ps := ["_law_thing"]) X G a19 l19 c19 k19 fun _ F => F.binds (ps := ["_law_thing"]) fun _ _ _ _ _ _ us hl => match us, hl with | [_], _ => rfl
  have D20 := df_mk (x := "_law_right") (st := sRi) (ps := ["_law_body", "_law_kind", "_law_term_here", "_law_x"]) X G a20 l20 c20 k20 fun _ F => F.binds (ps := ["_law_body", "_law_kind", "_law_term_here", "_law_x"]) fun _ _ _ _ _ _ us hl => match us, hl with | [_, _, _, _], _ => rfl
  have D21 := df_mk (x := "_law_free_right") (st := sFg) (ps := ["_law_sayings"]) X G a21 l21 c21 k21 fun _ F => F.binds (ps := ["_law_sayings"]) fun _ _ _ _ _ _ us hl => match us, hl with | [_], _ => rfl
  have D22 := df_mk (x := "law") (st := sLaw) (ps := ["_law_script"]) X G a22 l22 c22 k22 fun _ F => F.binds (ps := ["_law_script"]) fun _ _ _ _ _ _ us hl => match us, hl with | [_], _ => rfl
  have lB : ∀ H, SqT K H aB [.str "all", .str "some"] := fun H => .inr ⟨_, _, _, lBB, rfl, rfl, show 2 ≤ sizeLine by decide, .cons ⟨_, rfl⟩ (.cons ⟨_, rfl⟩ .nil)⟩
  exact ⟨PySem.W.fnOf "law" "law" (defArgs sLaw) (defBody sLaw) (defScope sLaw) .none kV22 dc22 pm22 an22 cd22 ct22, fun s v => .of_eq rfl, fun base _ _ => ok_Law D0 D1 D2 D3 D4 D5 D6 D7 D8 D9 D10 D11 D12 D13 D14 D15 D16 D17 D18 D19 D20 D21 D22 (PySem.W.mg_of X G aBB) lB (PySem.W.mg_none_of X G z0) (PySem.W.mg_none_of X G z1) (PySem.W.mg_none_of X G z2) (PySem.W.mg_none_of X G z3) (PySem.W.mg_none_of X G z4) (PySem.W.mg_none_of X G z5) (PySem.W.mg_none_of X G z6) (PySem.W.mg_none_of X G z7) (PySem.W.mg_none_of X G z8)⟩
end Wk
open PySem PySem.W PyProof.Rows
set_option maxHeartbeats 0 in
theorem PySem.Challenge.cw_goalsmith_k32_opened_and_shut_holds : PySem.Challenge.rw_goalsmith_k32_opened_and_shut.Holds := by
  w_on; o_law; k_head; (case hw => w_witness2)
  k_fill
  refine L2.walk_of (l := PySem.Challenge.rw_goalsmith_k32_opened_and_shut) (n := 63) (k := 24) (x := "_law_script") (CX := fun _ => L2.CX0) (sp := fun w => Wk.spLaw _) rfl (by decide) rfl ⟨rfl, by decide, by decide⟩ (fun w h Y => PySem.W.kIn_of Y) ?F (fun _ _ a ns hl _ hS => ⟨a, ns, rfl, hS, hl, fun _ => rfl⟩) (fun _ _ _ _ _ h => h)
  case F =>
    intro w mg fa h KX G hmg
    refine' Wk.all_mk KX G hmg ?aBB ?lBB ?a0 ?l0 ?c0 ?k0 ?a1 ?l1 ?c1 ?k1 ?a2 ?l2 ?c2 ?k2 ?a3 ?l3 ?c3 ?k3 ?a4 ?l4 ?c4 ?k4 ?a5 ?l5 ?c5 ?k5 ?a6 ?l6 ?c6 ?k6 ?a7 ?l7 ?c7 ?k7 ?a8 ?l8 ?c8 ?k8 ?a9 ?l9 ?c9 ?k9 ?a10 ?l10 ?c10 ?k10 ?a11 ?l11 ?c11 ?k11 ?a12 ?l12 ?c12 ?k12 ?a13 ?l13 ?c13 ?k13 ?a14 ?l14 ?c14 ?k14 ?a15 ?l15 ?c15 ?k15 ?a16 ?l16 ?c16 ?k16 ?a17 ?l17 ?c17 ?k17 ?a18 ?l18 ?c18 ?k18 ?a19 ?l19 ?c19 ?k19 ?a20 ?l20 ?c20 ?k20 ?a21 ?l21 ?c21 ?k21 ?a22 ?l22 ?c22 ?k22 ?z0 ?z1 ?z2 ?z3 ?z4 ?z5 ?z6 ?z7 ?z8
    (case aBB => k_is); (case lBB => k_is); (case a0 => k_is); (case l0 => k_is); (case c0 => k_is); (case k0 => k_is); (case a1 => k_is); (case l1 => k_is); (case c1 => k_is); (case k1 => k_is); (case a2 => k_is); (case l2 => k_is); (case c2 => k_is); (case k2 => k_is); (case a3 => k_is); (case l3 => k_is); (case c3 => k_is); (case k3 => k_is); (case a4 => k_is); (case l4 => k_is); (case c4 => k_is); (case k4 => k_is); (case a5 => k_is); (case l5 => k_is); (case c5 => k_is); (case k5 => k_is); (case a6 => k_is); (case l6 => k_is); (case c6 => k_is); (case k6 => k_is); (case a7 => k_is); (case l7 => k_is); (case c7 => k_is); (case k7 => k_is); (case a8 => k_is); (case l8 => k_is); (case c8 => k_is); (case k8 => k_is); (case a9 => k_is); (case l9 => k_is); (case c9 => k_is); (case k9 => k_is); (case a10 => k_is); (case l10 => k_is); (case c10 => k_is); (case k10 => k_is); (case a11 => k_is); (case l11 => k_is); (case c11 => k_is); (case k11 => k_is); (case a12 => k_is); (case l12 => k_is); (case c12 => k_is); (case k12 => k_is); (case a13 => k_is); (case l13 => k_is); (case c13 => k_is); (case k13 => k_is); (case a14 => k_is); (case l14 => k_is); (case c14 => k_is); (case k14 => k_is); (case a15 => k_is); (case l15 => k_is); (case c15 => k_is); (case k15 => k_is); (case a16 => k_is); (case l16 => k_is); (case c16 => k_is); (case k16 => k_is); (case a17 => k_is); (case l17 => k_is); (case c17 => k_is); (case k17 => k_is); (case a18 => k_is); (case l18 => k_is); (case c18 => k_is); (case k18 => k_is); (case a19 => k_is); (case l19 => k_is); (case c19 => k_is); (case k19 => k_is); (case a20 => k_is); (case l20 => k_is); (case c20 => k_is); (case k20 => k_is); (case a21 => k_is); (case l21 => k_is); (case c21 => k_is); (case k21 => k_is); (case a22 => k_is); (case l22 => k_is); (case c22 => k_is); (case k22 => k_is); (case z0 => k_is); (case z1 => k_is); (case z2 => k_is); (case z3 => k_is); (case z4 => k_is); (case z5 => k_is); (case z6 => k_is); (case z7 => k_is); (case z8 => k_is)
