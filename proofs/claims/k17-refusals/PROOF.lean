import PyProof.Rows.All
import Wide.All
import OpenK.AllK
import Wide.FinOn
import HandS.ForMost
import HandS.TupSets
import KE.SortData
import HandS.IsInst
import HandS.Walk
import HandS.More
import HandS.ForExc
import HandS.ExcIs
import HandS.ExcField
import HandS.ExcInit
import HandS.ExcValue
import PySem.Challenge.RW_goalsmith_k17_refusals
set_option Elab.async false
set_option linter.all false
set_option maxRecDepth 100000
set_option maxHeartbeats 4000000
/-! sets of tuples of texts (and ints): their order is the world's; set(xs), sorted(set(xs)). -/
namespace SetK
open PySem PySem.Spec PyProof.Rows L2

abbrev kh (P : Program) (w : World) (k : List Key) : Int := tupleKeyHash (mixKind P w) k
abbrev Tk (P : Program) (w : World) (h : Heap) (k : List Key) (b : Addr) : Prop := IsTupleKey (mixKind P w) h k b

section
variable {P : Program} {w : World} {A : Around} {E : Value → Shared → Prop} {s : Shared}

theorem flat_items {k : List Key} {vs : List Value} (z : ItemsAre (mixKind P w) k vs) : ∀ v ∈ vs, (∃ i t, v = Value.int i t) ∨ ∃ x t, v = Value.str x t := by
  induction z with
  | nil => intro v q; cases q
  | cons h1 _ ih =>
    intro v q
    rcases List.mem_cons.mp q with rfl | q
    · rcases keyIs_shape h1 with ⟨i, t, _, e⟩ | ⟨x, t, _, e⟩
      · exact .inl ⟨i, t, e⟩
      · exact .inr ⟨x, t, e⟩
    · exact ih v q
theorem noClass_flat (n : Nat) {v : Value} (z : (∃ i t, v = Value.int i t) ∨ ∃ x t, v = Value.str x t) : ofAClassStatement n v = pure false := by
  rcases z with ⟨i, t, rfl⟩ | ⟨x, t, rfl⟩ <;> cases n <;> rfl
theorem hashBy_flat (n : Nat) {v : Value} (z : (∃ i t, v = Value.int i t) ∨ ∃ x t, v = Value.str x t) : ∃ c, hashByValue n v = pure c := by
  rcases z with ⟨i, t, rfl⟩ | ⟨x, t, rfl⟩
  · exact ⟨true, by cases n <;> rfl⟩
  · exact ⟨false, by cases n <;> rfl⟩
theorem noClass_tuple {k : List Key} {b : Addr} {Q : Bool → Shared → Prop} (z : Tk P w s.heap k b) (q : Q false s) : wpAny (model P w) A (ofAClassStatement 8 (.ref b)) Q E s := by
  have ty := z.typeIs
  obtain ⟨ob, its, n, ho, _, hd, hi⟩ := z
  unfold ofAClassStatement
  refine wpAny_bind (wpAny_typeOf ty ?_)
  dsimp only
  have e : (("tuple" : String) == "tuple") = true := by decide
  simp only [e, if_true, Bool.not_true, Bool.false_eq_true, if_false]
  try refine wpAny_bind (wpAny_pure ?_)
  try simp only [Bool.not_true, Bool.false_eq_true, if_false]
  show wpAny _ _ (seqItems? (.ref b) >>= _) _ _ s
  refine wpAny_bind (wpAny_seqItems ho hd ?_)
  dsimp only
  refine wpAny_bind ?_
  show wpAny _ _ (forIn its _ _) _ _ s
  rw [← Array.forIn_toList]
  refine wpAny_forIn_list _ (fun rest r s1 => r.1 = none ∧ s1 = s ∧ ∀ v ∈ rest, (∃ i t, v = Value.int i t) ∨ ∃ x t, v = Value.str x t) _ ?_ ?_ _ _ ⟨rfl, rfl, flat_items hi⟩
  · rintro v rest r s1 ⟨_, rfl, fl⟩
    rw [noClass_flat _ (fl v List.mem_cons_self)]
    refine wpAny_bind (wpAny_pure ?_)
    simp only [Bool.false_eq_true, if_false]
    exact wpAny_pure ⟨rfl, rfl, fun u hu => fl u (List.mem_cons_of_mem _ hu)⟩
  · rintro ⟨r1, r2⟩ s1 ⟨e1, rfl, _⟩
    simp only at e1
    subst e1
    exact wpAny_pure q
theorem hashBy_tuple {k : List Key} {b : Addr} {Q : Bool → Shared → Prop} (z : Tk P w s.heap k b) (q : ∀ c, Q c s) : wpAny (model P w) A (hashByValue 8 (.ref b)) Q E s := by
  have ty := z.typeIs
  obtain ⟨ob, its, n, ho, _, hd, hi⟩ := z
  unfold hashByValue
  refine wpAny_bind (wpAny_specialOf ty F.slot_tuple_hash.lookup ?_)
  show wpAny _ _ (seqItems? (.ref b) >>= _) _ _ s
  refine wpAny_bind (wpAny_seqItems ho hd ?_)
  refine wpAny_bind ?_
  show wpAny _ _ (forIn its _ _) _ _ s
  rw [← Array.forIn_toList]
  refine wpAny_forIn_list _ (fun rest r s1 => r.1 = none ∧ s1 = s ∧ ∀ v ∈ rest, (∃ i t, v = Value.int i t) ∨ ∃ x t, v = Value.str x t) _ ?_ ?_ _ _ ⟨rfl, rfl, flat_items hi⟩
  · rintro v rest r s1 ⟨_, rfl, fl⟩
    obtain ⟨c, e⟩ := hashBy_flat 7 (fl v List.mem_cons_self)
    rw [e]
    refine wpAny_bind (wpAny_pure ?_)
    cases c
    · simp only [Bool.not_false, if_true]
      exact wpAny_pure (wpAny_pure (q false))
    · simp only [Bool.not_true, Bool.false_eq_true, if_false]
      exact wpAny_pure ⟨rfl, rfl, fun u hu => fl u (List.mem_cons_of_mem _ hu)⟩
  · rintro ⟨r1, r2⟩ s1 ⟨e1, rfl, _⟩
    simp only at e1
    subst e1
    exact wpAny_pure (q true)
/-- looking among such tuples shows nothing of the table -/
theorem unseen {k : List Key} {b : Addr} {Q : Bool → Shared → Prop} (z : Tk P w s.heap k b) {ys : List Value} (zs : ∀ y ∈ ys, ∃ k1 c, y = Value.ref c ∧ Tk P w s.heap k1 c) (q : Q false s) :
    wpAny (model P w) A (searchCouldBeSeen (.ref b) ys) Q E s := by
  unfold searchCouldBeSeen
  refine wpAny_bind ?_
  refine wpAny_forIn_list _ (fun rest r s1 => r.1 = none ∧ s1 = s ∧ ∀ y ∈ rest, ∃ k1 c, y = Value.ref c ∧ Tk P w s.heap k1 c) _ ?_ ?_ _ _ ⟨rfl, rfl, zs⟩
  · rintro v rest r s1 ⟨_, rfl, fl⟩
    obtain ⟨k1, c, rfl, zc⟩ := fl v List.mem_cons_self
    have more : ∀ y ∈ rest, ∃ k1 c, y = Value.ref c ∧ Tk P w s1.heap k1 c := fun u hu => fl u (List.mem_cons_of_mem _ hu)
    dsimp only
    by_cases very : (b == c || (carriedByValue (.ref b) && carriedByValue (.ref c))) = true
    · exact wp_if_pos very (wpAny_pure ⟨rfl, rfl, more⟩)
    · refine wp_if_neg very ?_
      refine wpAny_bind (wpAny_eqIsQuiet_tuple z ?_)
      simp only [Bool.not_true, Bool.false_eq_true, if_false]
      refine wpAny_bind (wpAny_eqIsQuiet_tuple zc ?_)
      simp only [Bool.not_true, Bool.false_eq_true, if_false]
      refine wpAny_bind (noClass_tuple z ?_)
      simp only [Bool.false_eq_true, if_false]
      refine wpAny_bind (noClass_tuple zc ?_)
      simp only [Bool.false_eq_true, if_false]
      exact wpAny_pure ⟨rfl, rfl, more⟩
  · rintro ⟨r1, r2⟩ s1 ⟨e1, rfl, _⟩
    simp only at e1
    subst e1
    exact wpAny_pure q
end
end SetK
namespace SetK
open PySem PySem.Spec PyProof.Rows L2

def rows (P : Program) (w : World) (L : List (Addr × List Key)) : List (Int × Value) := L.map fun q => (kh P w q.2, Value.ref q.1)
theorem rows_len {P : Program} {w : World} {L : List (Addr × List Key)} {es : Array (Int × Value)} (e : es.toList = rows P w L) : es.size = L.length := by
  have z := congrArg List.length e
  rw [Array.length_toList, rows, List.length_map] at z
  exact z
theorem rows_at {P : Program} {w : World} {L : List (Addr × List Key)} {es : Array (Int × Value)} (e : es.toList = rows P w L) {i : Nat} {q : Addr × List Key} (g : L[i]? = some q) : es[i]? = some (kh P w q.2, Value.ref q.1) := by
  rw [← Array.getElem?_toList, e, rows, List.getElem?_map, g]
  rfl
structure SetR (P : Program) (w : World) (h : Heap) (a : Addr) (L : List (Addr × List Key)) (es : Array (Int × Value)) (ep : Nat) (t : SetTable) : Prop where
  ob : ∃ o, h.get? a = some o ∧ o.ExactSet ∧ o.data = .set es ep t
  rw_ : es.toList = rows P w L
  tab : TabOk t (L.map fun q => kh P w q.2)
  nd : (L.map (·.2)).Nodup
  tup : ∀ q ∈ L, Tk P w h q.2 q.1
  led : w.params.followText "set-order" = true ∨ t.led = true
  room : L.length * 5 < t.mask * 3
  few : L.length < 64

section
variable {P : Program} {w : World} {A : Around} {E : Value → Shared → Prop} {s : Shared} {a : Addr} {L : List (Addr × List Key)} {es : Array (Int × Value)} {ep : Nat} {t : SetTable}
theorem SetR.fit (z : SetR P w s.heap a L es ep t) : t.fits es.size = true := by
  have h1 := z.tab.sz
  rw [List.length_map] at h1
  have h2 := rows_len z.rw_
  have h3 := z.room
  unfold SetTable.fits SetTable.fill
  rw [z.tab.dm, Bool.and_eq_true, beq_iff_eq, decide_eq_true_eq]
  show t.place.size = es.size ∧ t.place.size + 0 ≤ t.mask
  omega
theorem SetR.stays (z : SetR P w s.heap a L es ep t) : ¬ t.gaveWay = true := by
  unfold SetTable.gaveWay
  rw [mask_odd z.tab.mok]
  decide
/-- the c-th probe -/
abbrev pr (m : Nat) (hv : Int) (c : Nat) : SetTable.Probe := nth m (runAt m (SetTable.bits hv % (m + 1)) (SetTable.bits hv)) c
theorem pr_dummy (m : Nat) (hv : Int) (c : Nat) : (pr m hv c).dummy = none := by
  have key : ∀ (n : Nat) (p : SetTable.Probe), p.dummy = none → (nth m p n).dummy = none := by
    intro n
    induction n with
    | zero => exact fun p e => e
    | succ n ih =>
      intro p e
      refine ih (adv m p) ?_
      unfold adv
      split <;> exact e
  exact key c _ rfl
theorem pr_add (m : Nat) (hv : Int) (c q : Nat) : nth m (pr m hv c) q = pr m hv (c + q) := (nth_add m c _ q).symm
theorem pr_way (m : Nat) (hv : Int) (c q : Nat) : (nth m (pr m hv c) q).j = way m hv (c + q) := congrArg SetTable.Probe.j (pr_add m hv c q)

theorem SetR.seek (z : SetR P w s.heap a L es ep t) {x : Addr} {k : List Key} (zx : Tk P w s.heap k x) (hu : A.units < cLine) {N : Nat} (nf : N < 10 * SetTable.turns t.mask)
    (nh : way t.mask (kh P w k) N ∉ t.place.toList) (nb : ∀ c, c < N → way t.mask (kh P w k) c ∈ t.place.toList) {Q : SetFound → Shared → Prop}
    (yes : k ∈ L.map (·.2) → Q (.there none) s) (no : k ∉ L.map (·.2) → Q (.free (way t.mask (kh P w k) N) false) s) :
    ∀ (f c : Nat) (stand : Option SetTable.Probe), stand.getD (t.probeStart (kh P w k)) = pr t.mask (kh P w k) c → c ≤ N → N - c < f →
      (∀ (i : Nat) q, L[i]? = some q → q.2 = k → ∃ c1, c ≤ c1 ∧ c1 < N ∧ t.place.toList[i]? = some (way t.mask (kh P w k) c1)) →
      wpAny (model P w) A (setSearchFrom a (.ref x) (kh P w k) true f stand) Q E s
  | 0, _, _, _, _, hf, _ => absurd hf (Nat.not_lt_zero _)
  | f + 1, c, stand, hst, hc, hf, ahead => by
    obtain ⟨ob, go, ge, gd⟩ := z.ob
    rw [setSearchFrom_succ]
    refine wpAny_bind (wpAny_setState_of go gd z.fit ?_)
    dsimp only
    refine wp_if_neg z.stays ?_
    try refine wpAny_bind (wpAny_pure ?_)
    have spec := go_spec t z.tab.ris z.tab.dm (fun i => (es[i]?.map (·.1)).getD 0) (kh P w k) (10 * SetTable.turns t.mask) (N - c) _ (pr_dummy t.mask (kh P w k) c) (by omega)
      (fun q hq => by rw [pr_way]; exact nb (c + q) (by omega)) (by rw [pr_way, show c + (N - c) = N by omega]; exact nh)
    have hAt : ∀ (i : Nat) q, L[i]? = some q → (fun i => (es[i]?.map (·.1)).getD 0) i = kh P w q.2 := fun i q g => by
      show (es[i]?.map (·.1)).getD 0 = _
      rw [rows_at z.rw_ g]
      rfl
    rcases spec with ⟨q, i, hq, hi, hh, hno, hpr⟩ | ⟨hno, hpr⟩
    · have hpr2 : t.probe (fun i => (es[i]?.map (·.1)).getD 0) (kh P w k) (stand.getD (t.probeStart (kh P w k))) = some (.candidate (way t.mask (kh P w k) (c + q)) i (pr t.mask (kh P w k) (c + (q + 1)))) := by
        rw [hst, ← pr_way, ← pr_add]
        exact hpr
      rw [hpr2]
      dsimp only
      rw [pr_way] at hi
      have hil : i < L.length := by
        have h1 : i < t.place.toList.length := (List.getElem?_eq_some_iff.mp hi).1
        have h2 := z.tab.sz
        rw [List.length_map] at h2
        rw [Array.length_toList] at h1
        omega
      have hp : L[i]? = some L[i] := List.getElem?_eq_getElem hil
      generalize L[i] = p at hp
      have hmem : p ∈ L := List.mem_of_getElem? hp
      have zp := z.tup p hmem
      have rest : wpAny (model P w) A (searchRest a (.ref x) (kh P w k) true f es t (way t.mask (kh P w k) (c + q)) i (pr t.mask (kh P w k) (c + (q + 1)))) Q E s := by
        unfold searchRest
        rw [rows_at z.rw_ hp]
        dsimp only
        refine wpAny_bind (wpAny_holding (wpAny_eqBool_tuple hu zp zx ?_))
        refine wpAny_bind (wpAny_setState_of go gd z.fit ?_)
        dsimp only
        by_cases hkk : p.2 = k
        · refine wp_if_pos (by simp [hkk]) ?_
          exact wpAny_pure (yes (List.mem_map.mpr ⟨p, hmem, hkk⟩))
        · refine wp_if_neg (by simp [hkk]) ?_
          try refine wpAny_bind (wpAny_pure ?_)
          rw [sameMem]
          dsimp only
          have hsl : t.slot (way t.mask (kh P w k) (c + q)) = .live i := slot_live z.tab.ris hi
          simp only [if_true, hsl, rows_at z.rw_ hp]
          refine wpAny_bind (wpAny_isSame_ref_self (wpAny_bind (wpAny_pure ?_)))
          simp only [if_true]
          refine wp_if_neg (by simp [hkk]) ?_
          refine SetR.seek z zx hu nf nh nb yes no f (c + (q + 1)) _ rfl (by omega) (by omega) fun i0 p0 h0 hk0 => ?_
          obtain ⟨c1, a1, a2, a3⟩ := ahead i0 p0 h0 hk0
          refine ⟨c1, ?_, a2, a3⟩
          rcases Nat.lt_trichotomy c1 (c + q) with y | y | y
          · refine absurd ((hAt i0 p0 h0).trans (congrArg (kh P w) hk0)) ?_
            exact hno (c1 - c) i0 (by omega) (by rw [pr_way, show c + (c1 - c) = c1 by omega]; exact a3)
          · rw [y] at a3
            have s0 := slot_live z.tab.ris a3
            rw [hsl] at s0
            injection s0 with s0
            rw [← s0, hp] at h0
            exact absurd ((congrArg Prod.snd (Option.some.inj h0)).trans hk0) hkk
          · omega
      by_cases hl : t.led = true
      · refine wp_if_neg (by simp [hl]) ?_
        try refine wpAny_bind (wpAny_pure ?_)
        exact rest
      · refine wp_if_pos (by simp [hl]) ?_
        refine wpAny_bind (unseen zx (fun y hy => ?_) ?_)
        · obtain ⟨e, he, ee⟩ := List.mem_map.mp hy
          have he1 : e ∈ es ∧ e.1 = kh P w k := by simpa using he
          have he2 : e ∈ es.toList := by simpa using he1.1
          rw [z.rw_] at he2
          obtain ⟨p2, hp2, e2⟩ := List.mem_map.mp he2
          refine ⟨p2.2, p2.1, ?_, z.tup p2 hp2⟩
          rw [← ee, ← e2]
        · refine wp_if_neg (by decide) ?_
          try refine wpAny_bind (wpAny_pure ?_)
          exact rest
    · have hpr2 : t.probe (fun i => (es[i]?.map (·.1)).getD 0) (kh P w k) (stand.getD (t.probeStart (kh P w k))) = some (.empty (way t.mask (kh P w k) N) none) := by
        have e2 : way t.mask (kh P w k) N = (nth t.mask (pr t.mask (kh P w k) c) (N - c)).j := by
          rw [pr_way, show c + (N - c) = N by omega]
        rw [hst, e2]
        exact hpr
      rw [hpr2]
      dsimp only
      refine wpAny_pure (no fun hm => ?_)
      obtain ⟨p0, h0, hk0⟩ := List.mem_map.mp hm
      obtain ⟨i0, hi0, e0⟩ := List.getElem_of_mem h0
      have h00 : L[i0]? = some p0 := by rw [List.getElem?_eq_getElem hi0, e0]
      obtain ⟨c1, a1, a2, a3⟩ := ahead i0 p0 h00 hk0
      refine absurd ((hAt i0 p0 h00).trans (congrArg (kh P w) hk0)) ?_
      exact hno (c1 - c) i0 (by omega) (by rw [pr_way, show c + (c1 - c) = c1 by omega]; exact a3)

theorem SetR.find (z : SetR P w s.heap a L es ep t) {x : Addr} {k : List Key} (zx : Tk P w s.heap k x) (hu : A.units < cLine) {Q : SetFound → Shared → Prop}
    (yes : k ∈ L.map (·.2) → Q (.there none) s)
    (no : ∀ N, k ∉ L.map (·.2) → way t.mask (kh P w k) N ∉ t.place.toList → (∀ c, c < N → way t.mask (kh P w k) c ∈ t.place.toList) → Q (.free (way t.mask (kh P w k) N) false) s) :
    wpAny (model P w) A (setSearch a (.ref x) (kh P w k) true) Q E s := by
  have rm := z.room
  obtain ⟨N, nf, nh, nb⟩ := z.tab.first (by rw [List.length_map]; omega) (kh P w k)
  have big : N < 100000 := by
    have : 10 * SetTable.turns t.mask ≤ 1420 := by
      unfold SetTable.turns
      rcases z.tab.mok with e | e | e <;> omega
    omega
  unfold setSearch
  refine z.seek zx hu nf nh nb yes (fun hn => no N hn nh nb) 100000 0 none rfl (Nat.zero_le _) (by omega) fun i p hp hk => ?_
  have hi : (L.map fun q => kh P w q.2)[i]? = some (kh P w k) := by
    rw [List.getElem?_map, hp, ← hk]
    rfl
  have hil : i < t.place.toList.length := by
    have h1 : i < L.length := (List.getElem?_eq_some_iff.mp hp).1
    have h2 := z.tab.sz
    rw [List.length_map] at h2
    rw [Array.length_toList]
    omega
  have hj := List.getElem?_eq_getElem hil
  obtain ⟨c, hc, e⟩ := z.tab.before nh hi hj
  exact ⟨c, Nat.zero_le _, hc, by rw [hj, e]⟩
end
end SetK
namespace SetK
open PySem PySem.Spec PyProof.Rows L2
section
variable {P : Program} {w : World} {A : Around} {E : Value → Shared → Prop} {s : Shared} {a : Addr} {L : List (Addr × List Key)} {es : Array (Int × Value)} {ep : Nat} {t : SetTable}

theorem tk_but {h h1 : Heap} {k : List Key} {b : Addr} {o : Obj} (z : Tk P w h k b) (ho : h.get? a = some o) (hd : o.data = .set es ep t) (sb : Heap.SameBut a h h1) : Tk P w h1 k b := by
  obtain ⟨ob, its, n, go, gc, gd, gi⟩ := z
  refine ⟨ob, its, n, (sb.2 b ?_).trans go, gc, gd, gi⟩
  rintro rfl
  obtain rfl : ob = o := Option.some.inj (go.symm.trans ho)
  rw [hd] at gd
  exact nomatch gd
theorem tk_keep {h h1 : Heap} {k : List Key} {b : Addr} (z : Tk P w h k b) (hk : ∀ c o, h.get? c = some o → h1.get? c = some o) : Tk P w h1 k b := by
  obtain ⟨ob, its, n, go, r⟩ := z
  exact ⟨ob, its, n, hk b ob go, r⟩

theorem pick_rows (order : Array Nat) (e : es.toList = rows P w L) (hp : order.toList.Perm (List.range L.length)) :
    ∃ M, (order.filterMap (es[·]?)).toList = rows P w M ∧ M.Perm L ∧ (M.map fun q => kh P w q.2) = order.toList.map fun i => (es.map (·.1)).getD i 0 := by
  have hsz := rows_len e
  have key : ∀ l : List Nat, (∀ i ∈ l, i < L.length) → l.filterMap (fun i => es[i]?) = rows P w (l.filterMap fun i => L[i]?) ∧ ((l.filterMap fun i => L[i]?).map fun q => kh P w q.2) = l.map fun i => (es.map (·.1)).getD i 0 := by
    intro l
    induction l with
    | nil => exact fun _ => ⟨rfl, rfl⟩
    | cons i l ih =>
      intro hl
      have hi := hl i List.mem_cons_self
      obtain ⟨e1, e2⟩ := ih fun j hj => hl j (List.mem_cons_of_mem _ hj)
      have g : L[i]? = some L[i] := List.getElem?_eq_getElem hi
      have ge := rows_at e g
      refine ⟨?_, ?_⟩
      · rw [List.filterMap_cons_some ge, List.filterMap_cons_some g, e1]
        rfl
      · rw [List.filterMap_cons_some g, List.map_cons, List.map_cons, e2]
        have e5 : (es.map (·.1))[i]? = some (kh P w (L[i]).2) := by
          rw [Array.getElem?_map, ge]
          rfl
        rw [show (es.map (·.1)).getD i 0 = kh P w (L[i]).2 by simp [Array.getD_eq_getD_getElem?, e5]]
  obtain ⟨e1, e2⟩ := key order.toList fun i hi => List.mem_range.mp (hp.mem_iff.mp hi)
  refine ⟨order.toList.filterMap fun i => L[i]?, by simpa using e1, ?_, e2⟩
  have h1 : (order.toList.filterMap fun i => L[i]?).Perm ((List.range L.length).filterMap fun i => L[i]?) := hp.filterMap _
  have h2 : ∀ n, n ≤ L.length → (List.range n).filterMap (fun i => L[i]?) = L.take n := by
    intro n
    induction n with
    | zero => exact fun _ => rfl
    | succ n ih =>
      intro hn
      have hlt : n < L.length := hn
      rw [List.range_succ, List.filterMap_append, ih (Nat.le_of_lt hlt), List.take_succ, List.getElem?_eq_getElem hlt, List.filterMap_cons_some (List.getElem?_eq_getElem hlt)]
      rfl
  rw [h2 L.length (Nat.le_refl _), List.take_length] at h1
  exact h1

/-- the table laid anew, larger -/
theorem relay {o : Obj} (ho : s.heap.get? a = some o) (hex : o.ExactSet) (hd : o.data = .set es ep t) (er : es.toList = rows P w L) (hsz : t.place.size = es.size) (hdm : t.dummies = #[]) (hfl : es.size ≤ t.mask)
    (nd : (L.map (·.2)).Nodup) (tup : ∀ q ∈ L, Tk P w s.heap q.2 q.1) (ld : w.params.followText "set-order" = true ∨ t.led = true) (few : L.length < 64) {wanted M : Nat}
    (hw : SetTable.sizeAbove wanted - 1 = M) (hM : MaskOk M) (hw2 : SetTable.sizeAbove wanted ≤ 128) (hn : L.length * 5 < M * 3) {Q : Unit → Shared → Prop}
    (hQ : ∀ h1 L1 es1 ep1 t1, Heap.SameBut a s.heap h1 → SetR P w h1 a L1 es1 ep1 t1 → L1.Perm L → Q () { s with heap := h1 }) : wpAny (model P w) A (setRelay a wanted) Q E s := by
  have hsl := rows_len er
  have hfits : t.fits es.size = true := by
    unfold SetTable.fits SetTable.fill
    rw [hdm, Bool.and_eq_true, beq_iff_eq, decide_eq_true_eq]
    show t.place.size = es.size ∧ t.place.size + 0 ≤ t.mask
    omega
  obtain ⟨t1, order, e, hp, T, em, el, _, _⟩ := relaid_ok t (hs := es.map (·.1)) (wanted := wanted) hw hM (by rw [Array.size_map, hsl]; omega)
  rw [Array.size_map, hsl] at hp
  obtain ⟨L1, r1, r2, r3⟩ := pick_rows order er hp
  rw [← r3] at T
  have hs2 : (order.filterMap (es[·]?)).size = es.size := by rw [rows_len r1, r2.length_eq, hsl]
  rw [setRelay_eq]
  refine wpAny_bind (wpAny_setState_of ho hd hfits ?_)
  dsimp only
  refine wp_if_neg (by rw [sizeLine_eq]; omega) ?_
  try refine wpAny_bind (wpAny_pure ?_)
  rw [e]
  dsimp only
  refine wpAny_bind ?_
  refine wp_if_neg (by rw [hs2]; simp) ?_
  try refine wpAny_bind (wpAny_pure ?_)
  refine wpAny_pure ?_
  dsimp only
  refine wpAny_storeSet_of ho hd ?_ (by rw [hs2, hsl, sizeLine_eq]; omega)
  have sb : Heap.SameBut a s.heap (s.heap.update a (Obj.putSet (order.filterMap (es[·]?)) t1)) := Heap.SameBut.update ..
  refine hQ _ L1 (order.filterMap (es[·]?)) (ep + 1) t1 sb ⟨⟨_, store_at ho hd, ⟨hex.1, hex.2.1, hex.2.2⟩, rfl⟩, r1, T, (r2.map (·.2)).nodup_iff.mpr nd, fun p hpm => tk_but (tup p (r2.mem_iff.mp hpm)) ho hd sb, by rw [el]; exact ld, ?_, ?_⟩ r2
  · rw [r2.length_eq, em]
    exact hn
  · rw [r2.length_eq]
    exact few

def storing (a : Addr) (es1 : Array (Int × Value)) (n : Nat) (t1 : SetTable) : Sem Bool := do
  storeSet a es1 t1
  if !false && t1.tooFull then setRelay a (SetTable.grown (n + 1))
  return true
/-- one more, or one that is there -/
theorem SetR.add (z : SetR P w s.heap a L es ep t) {x : Addr} {k : List Key} (zx : Tk P w s.heap k x) (hu : A.units < cLine) (hfew : k ∉ L.map (·.2) → L.length + 1 < 64) {Q : Bool → Shared → Prop}
    (hQ : ∀ b h1 L1 es1 ep1 t1, Heap.SameBut a s.heap h1 → SetR P w h1 a L1 es1 ep1 t1 → (k ∈ L.map (·.2) → L1 = L) → (k ∉ L.map (·.2) → L1.Perm ((x, k) :: L)) → Q b { s with heap := h1 }) :
    wpAny (model P w) A (setAddHashed a (.ref x) (kh P w k)) Q E s := by
  obtain ⟨ob, go, ge, gd⟩ := z.ob
  have hsl := rows_len z.rw_
  have rm := z.room
  unfold setAddHashed
  refine wpAny_holding ?_
  rw [show (100000 : Nat) = 99999 + 1 from rfl, setAddHashedIn_succ]
  refine wpAny_bind (wpAny_setState_of go gd z.fit ?_)
  dsimp only
  refine wp_if_neg (by simp [byScan, Value.scannable]) ?_
  try refine wpAny_bind (wpAny_pure ?_)
  refine wpAny_bind (z.find zx hu (fun hm => ?_) fun N hm hN hb => ?_)
  · dsimp only
    exact wpAny_pure (hQ false s.heap L es ep t (Heap.SameBut.refl a s.heap) z (fun _ => rfl) fun y => absurd hm y)
  · dsimp only
    have hfew := hfew hm
    refine wpAny_bind (wpAny_setState_of go gd z.fit ?_)
    dsimp only
    obtain ⟨q1, q2, q3, q4, q5, q6, q7, q8, q9⟩ := z.tab.put hN hb
    generalize t.put (way t.mask (kh P w k) N) = pt at q1 q3 q4 q5 q6 q7 q8 q9 ⊢
    obtain ⟨t0, p⟩ := pt
    dsimp only at q1 q3 q4 q5 q6 q7 q8 q9 ⊢
    subst q1
    generalize hpp : SetTable.below t.place (way t.mask (kh P w k) N) = p at q2 q3 ⊢
    have hin : (SetTable.insertAt es p (kh P w k, Value.ref x)).toList = rows P w (L.take p ++ (x, k) :: L.drop p) := by
      rw [SetTable.toList_insertAt, z.rw_]
      unfold rows
      rw [List.map_append, List.map_cons, List.map_take, List.map_drop]
    have hhs : (L.take p ++ (x, k) :: L.drop p).map (fun q => kh P w q.2) = (L.map fun q => kh P w q.2).take p ++ kh P w k :: (L.map fun q => kh P w q.2).drop p := by
      rw [List.map_append, List.map_cons, List.map_take, List.map_drop]
    rw [← hhs] at q3
    have pm := put_perm L p (x, k)
    have hlen : (L.take p ++ (x, k) :: L.drop p).length = L.length + 1 := pm.length_eq
    have hes := rows_len hin
    rw [hlen] at hes
    have nd1 : ((L.take p ++ (x, k) :: L.drop p).map (·.2)).Nodup := by
      refine (pm.map (·.2)).nodup_iff.mpr ?_
      rw [List.map_cons]
      exact List.nodup_cons.mpr ⟨hm, z.nd⟩
    generalize SetTable.insertAt es p (kh P w k, Value.ref x) = es1 at hin hes ⊢
    generalize L.take p ++ (x, k) :: L.drop p = L1 at pm hlen q3 nd1 hin
    have tail : ∀ t1 : SetTable, TabOk t1 (L1.map fun q => kh P w q.2) → t1.mask = t.mask → t1.led = t.led → t1.fill = (L.map fun q => kh P w q.2).length + 1 →
        wpAny (model P w) A (storing a es1 es.size t1) Q E s := by
      intro t1 c3 c4 c5 c9
      unfold storing
      refine wpAny_bind (wpAny_storeSet_of go gd ?_ (by rw [hes, sizeLine_eq]; omega))
      have sb : Heap.SameBut a s.heap (s.heap.update a (Obj.putSet es1 t1)) := Heap.SameBut.update ..
      have ho1 := store_at (es' := es1) (t' := t1) go gd
      generalize s.heap.update a (Obj.putSet es1 t1) = h1 at sb ho1 ⊢
      have tup1 : ∀ q ∈ L1, Tk P w h1 q.2 q.1 := fun q hq => by
        rcases List.mem_cons.mp (pm.mem_iff.mp hq) with e | hq
        · rw [e]; exact tk_but zx go gd sb
        · exact tk_but (z.tup q hq) go gd sb
      have ld1 : w.params.followText "set-order" = true ∨ t1.led = true := by rw [c5]; exact z.led
      by_cases hf : t1.tooFull = true
      · first
          | (refine wpAny_bind ?_; refine wp_if_pos (by simp [hf]) ?_)
          | (refine wp_if_pos (by simp [hf]) ?_; refine wpAny_bind ?_)
        have hfull : (L.length + 1) * 5 ≥ t1.mask * 3 := by
          have h := hf
          unfold SetTable.tooFull at h
          rw [decide_eq_true_eq, c9, List.length_map] at h
          exact h
        rw [hsl]
        have hsz1 : t1.place.size = es1.size := by
          have h := c3.sz
          rw [List.length_map, hlen] at h
          rw [h, hes]
        have two : (t.mask = 7 ∧ L.length = 4) ∨ (t.mask = 31 ∧ L.length = 18) := by
          rcases z.tab.mok with e | e | e
          · left; rw [c4, e] at hfull; rw [e] at rm; exact ⟨e, by omega⟩
          · right; rw [c4, e] at hfull; rw [e] at rm; exact ⟨e, by omega⟩
          · exfalso; rw [c4, e] at hfull; omega
        have go2 : ∀ M, SetTable.sizeAbove (SetTable.grown (L.length + 1)) - 1 = M → MaskOk M → SetTable.sizeAbove (SetTable.grown (L.length + 1)) ≤ 128 → (L.length + 1) * 5 < M * 3 →
            wpAny (model P w) A (setRelay a (SetTable.grown (L.length + 1))) (fun _ s' => wpAny (model P w) A (pure true) Q E s') E { s with heap := h1 } := fun M m1 m2 m3 m4 => by
          refine relay (s := { s with heap := h1 }) ho1 ⟨ge.1, ge.2.1, ge.2.2⟩ rfl hin hsz1 c3.dm (by rw [hes, c4]; rcases two with ⟨e, e2⟩ | ⟨e, e2⟩ <;> omega) nd1 tup1 ld1 (by rw [hlen]; exact hfew) m1 m2 m3 (by rw [hlen]; exact m4) ?_
          intro h2 L2 es2 ep2 t2 sb2 R2 pm2
          exact wpAny_pure (hQ true h2 L2 es2 ep2 t2 (sb.trans sb2) R2 (fun y => absurd y hm) fun _ => pm2.trans pm)
        rcases two with ⟨_, e2⟩ | ⟨_, e2⟩
        · exact go2 31 (by rw [e2, size_20]) (.inr (.inl rfl)) (by rw [e2, size_20]; decide) (by omega)
        · exact go2 127 (by rw [e2, size_76]) (.inr (.inr rfl)) (by rw [e2, size_76]; decide) (by omega)
      · first
          | refine wp_if_neg (by simp [hf]) ?_
          | (refine wpAny_bind ?_; refine wp_if_neg (by simp [hf]) ?_; refine wpAny_pure ?_)
        refine wpAny_pure (hQ true h1 L1 es1 (ep + 1) t1 sb ⟨⟨_, ho1, ⟨ge.1, ge.2.1, ge.2.2⟩, rfl⟩, hin, c3, nd1, tup1, ld1, ?_, by rw [hlen]; exact hfew⟩ (fun y => absurd y hm) fun _ => pm)
        have h := hf
        unfold SetTable.tooFull at h
        rw [decide_eq_true_eq, c9, List.length_map] at h
        rw [hlen]
        omega
    have both : ∀ c : Bool, wpAny (model P w) A (storing a es1 es.size (if c = true then t0 else { t0 with plain := false })) Q E s := fun c => by
      cases c
      · exact tail { t0 with plain := false } ⟨q3.ris, q3.dm, q3.sz, q3.mok, q3.bd, q3.reach⟩ q4 q5 q9
      · exact tail t0 q3 q4 q5 q9
    by_cases hpl : t0.plain = true
    · first
        | (refine wpAny_bind ?_; refine wp_if_pos hpl ?_; refine hashBy_tuple zx fun c => ?_; exact both c)
        | (refine wp_if_pos hpl (wpAny_bind (hashBy_tuple zx fun c => ?_)); exact both c)
    · first
        | (refine wpAny_bind ?_; refine wp_if_neg hpl ?_; refine wpAny_pure ?_; exact both true)
        | (refine wp_if_neg hpl ?_; refine wpAny_bind (wpAny_pure ?_); exact both true)
end
end SetK
namespace SetK
open PySem PySem.Spec PyProof.Rows L2

/-- what the set has of the first i items -/
structure Has (ks : List (Addr × List Key)) (i : Nat) (L : List (Addr × List Key)) : Prop where
  sub : ∀ q ∈ L, q ∈ ks
  all : ∀ q ∈ ks.take i, q.2 ∈ L.map (·.2)
theorem Has.zero (ks : List (Addr × List Key)) : Has ks 0 [] := ⟨fun _ z => (nomatch z), fun _ z => by simp at z⟩
theorem Has.same {ks L : List (Addr × List Key)} {i : Nat} {x : Addr × List Key} (g : Has ks i L) (h : ks[i]? = some x) (hm : x.2 ∈ L.map (·.2)) : Has ks (i + 1) L := by
  refine ⟨g.sub, fun q hq => ?_⟩
  rw [take_next h] at hq
  rcases List.mem_append.mp hq with y | y
  · exact g.all q y
  · rw [List.mem_singleton.mp y]
    exact hm
theorem Has.more {ks L L1 : List (Addr × List Key)} {i : Nat} {x : Addr × List Key} (g : Has ks i L) (h : ks[i]? = some x) (pm : L1.Perm (x :: L)) : Has ks (i + 1) L1 := by
  refine ⟨fun q hq => ?_, fun q hq => ?_⟩
  · rcases List.mem_cons.mp (pm.mem_iff.mp hq) with rfl | y
    · exact List.mem_of_getElem? h
    · exact g.sub q y
  · rw [(pm.map (·.2)).mem_iff, List.map_cons]
    rw [take_next h] at hq
    rcases List.mem_append.mp hq with y | y
    · exact List.mem_cons_of_mem _ (g.all q y)
    · rw [List.mem_singleton.mp y]
      exact List.mem_cons_self
/-- no more than so many unlike ones -/
def Few (ks : List (Addr × List Key)) : Prop := ∀ L : List (Addr × List Key), (L.map (·.2)).Nodup → (∀ q ∈ L, q ∈ ks) → L.length < 64

section
variable {P : Program} {w : World} {A : Around} {E : Value → Shared → Prop} {s : Shared}
theorem SetR.move {h h1 : Heap} {a : Addr} {L : List (Addr × List Key)} {es : Array (Int × Value)} {ep : Nat} {t : SetTable} (z : SetR P w h a L es ep t) (ha : ∀ o, h.get? a = some o → h1.get? a = some o) (ht : ∀ q ∈ L, Tk P w h1 q.2 q.1) : SetR P w h1 a L es ep t := by
  obtain ⟨o, ho, r⟩ := z.ob
  exact ⟨⟨o, ha o ho, r⟩, z.rw_, z.tab, z.nd, ht, z.led, z.room, z.few⟩
abbrev newSet (w : World) : Obj := { cls := .type "set", dict := none, data := .set #[] 0 (.fresh 0 0 (!w.params.followText "set-order")) }
theorem setR_new {h : Heap} {a : Addr} (ho : h.get? a = some (newSet w)) : SetR P w h a [] #[] 0 (.fresh 0 0 (!w.params.followText "set-order")) := by
  refine ⟨⟨_, ho, ⟨rfl, rfl, rfl⟩, rfl⟩, rfl, ⟨List.Pairwise.nil, rfl, rfl, .inl rfl, fun x y => (nomatch y), fun i h j y => by simp at y⟩, List.nodup_nil, fun q y => (nomatch y), ?_, by show 0 * 5 < 7 * 3; decide, by show 0 < 64; decide⟩
  show _ ∨ (!w.params.followText "set-order") = true
  cases w.params.followText "set-order"
  · exact .inr rfl
  · exact .inl rfl

theorem filling {I : Addr} {fp wr : List Addr} {G : Array GenState → Array GenState → Prop} {n : Nat} {Pv : Nat → Value → Prop} {St : Nat → Shared → Prop} {R : Result → Shared → Prop}
    (W : WalksS P w A.in1 I fp wr G n Pv St) (S : Addr) (nS : S ∉ fp) (ks : List (Addr × List Key)) (hn : n = ks.length) (cap : Few ks) (hval : ∀ i v, Pv i v → ∃ q, ks[i]? = some q ∧ v = .ref q.1)
    (h0 : Heap) (hk : ∀ q ∈ ks, Tk P w h0 q.2 q.1) (hS0 : h0.get? S = none) (hw0 : ∀ b ∈ wr, h0.get? b = none) (hu : A.in1.units < cLine) :
    ∀ (k i : Nat) (s : Shared), n - i = k → i ≤ n → St i s → (∀ b o, h0.get? b = some o → s.heap.get? b = some o) → (∃ L es ep t, SetR P w s.heap S L es ep t ∧ Has ks i L) →
      (∀ s1 L es ep t, Moved (S :: wr) G s s1 → SetR P w s1.heap S L es ep t → Has ks n L → (∀ b o, h0.get? b = some o → s1.heap.get? b = some o) → R (.ok (.ret .none)) s1) →
      codeAny (model P w) A (.builtin "set.update.loop" ⟨[.ref S, .ref I], []⟩) R s := by
  have nSw : S ∉ wr := fun h => nS (W.sub _ h)
  have up : ∀ b ∈ wr, b ∈ S :: wr := fun b hb => List.mem_cons_of_mem _ hb
  have still : ∀ {s s1 : Shared}, Moved wr G s s1 → (∀ b o, h0.get? b = some o → s.heap.get? b = some o) → ∀ b o, h0.get? b = some o → s1.heap.get? b = some o := fun hm kp b o e =>
    hm.heap b o (fun hb => by rw [hw0 b hb] at e; cases e) (kp b o e)
  intro k
  induction k with
  | zero =>
    intro i s ek hi hst kp ⟨L, es, ep, t, hS, g⟩ hR
    obtain rfl : i = n := by omega
    refine codeAny_builtin F.entry_set_update_loop ?_
    rw [Around.under_plainId F.plain_set_update_loop _]
    show wpAny _ A.in1 (pyNext (.ref I) >>= _) _ _ s
    refine wpAny_bind (W.done s _ _ hst fun s1 hm => ?_)
    show wpAny _ A.in1 (ret Value.none) _ _ s1
    have kp1 := still hm kp
    exact wpAny_pure (hR s1 L es ep t (hm.mono up) (hS.move (fun o e => hm.heap S o nSw e) fun q hq => tk_keep (hk q (g.sub q hq)) kp1) g kp1)
  | succ k ih =>
    intro i s ek hi hst kp ⟨L, es, ep, t, hS, g⟩ hR
    have hlt : i < n := by omega
    refine codeAny_builtin F.entry_set_update_loop ?_
    rw [Around.under_plainId F.plain_set_update_loop _]
    show wpAny _ A.in1 (pyNext (.ref I) >>= _) _ _ s
    refine wpAny_bind (W.item i s _ _ hlt hst fun v s1 hP hst1 hm => ?_)
    obtain ⟨p, hp, rfl⟩ := hval i v hP
    have kp1 := still hm kp
    have hS1 : SetR P w s1.heap S L es ep t := hS.move (fun o e => hm.heap S o nSw e) fun q hq => tk_keep (hk q (g.sub q hq)) kp1
    have hx : Tk P w s1.heap p.2 p.1 := tk_keep (hk p (List.mem_of_getElem? hp)) kp1
    show wpAny _ A.in1 (holding [Value.ref p.1] (setAdd S (.ref p.1)) >>= _) _ _ s1
    refine wpAny_bind (wpAny_holding ?_)
    unfold setAdd
    refine wpAny_holding ?_
    refine wpAny_bind (wpAny_pyHash_tuple hu hx ?_)
    refine SetR.add (s := { s1 with toks := s1.toks + (p.2.length + 1) }) hS1 hx hu (fun nm => ?_) fun b h1 L1 es1 ep1 t1 hsb hS2 c1 c2 => ?_
    · refine cap (p :: L) ?_ fun q hq => ?_
      · rw [List.map_cons]
        exact List.nodup_cons.mpr ⟨nm, hS.nd⟩
      · rcases List.mem_cons.mp hq with rfl | y
        · exact List.mem_of_getElem? hp
        · exact g.sub q y
    have g1 : Has ks (i + 1) L1 := by
      rcases Classical.em (p.2 ∈ L.map (·.2)) with c | c
      · rw [c1 c]; exact g.same hp c
      · exact g.more hp (c2 c)
    have kp2 : ∀ b o, h0.get? b = some o → h1.get? b = some o := fun b o e => (hsb.2 b (fun y => by rw [y, hS0] at e; cases e)).trans (kp1 b o e)
    refine wpAny_pure ⟨plainId_quiet F.plain_set_update_loop _, ih (i + 1) _ (by omega) hlt (W.frame _ s1 _ _ hst1 (Nat.le_add_right _ _) fun b hb o e => ?_) kp2 ⟨L1, es1, ep1, t1, hS2, g1⟩ fun s2 L2 es2 ep2 t2 m2 hS2 g2 kp2 => ?_⟩
    · rw [hsb.2 b (fun y : b = S => nS (by rw [← y]; exact hb))]; exact e
    · refine hR s2 L2 es2 ep2 t2 (Moved.trans W.gtrans ((hm.mono up).then_heap (Nat.le_add_right _ _) fun b o hb e => ?_) m2) hS2 g2 kp2
      rw [hsb.2 b (fun y : b = S => hb (by rw [y]; exact List.mem_cons_self))]; exact e

set_option maxHeartbeats 3200000 in
theorem call_set {l : Addr} {items : Array Value} (ks : List (Addr × List Key)) {Q : Value → Shared → Prop} (hh : A.handled = none) (hl : s.heap.IsList l items) (hit : items.toList = ks.map fun q => Value.ref q.1)
    (hk : ∀ q ∈ ks, Tk P w s.heap q.2 q.1) (cap : Few ks) (hu : A.units + 3 < cLine)
    (h : ∀ (h1 : Heap) (tk : Nat) L es ep t, SetR P w h1 s.heap.objs.size L es ep t → Has ks ks.length L → (∀ b o, s.heap.get? b = some o → h1.get? b = some o) → Q (.ref s.heap.objs.size) { s with heap := h1, toks := tk }) :
    wpAny (model P w) A (call (.type "set") [.ref l]) Q E s := by
  have hisz : items.size = ks.length := by
    have q := congrArg List.length hit
    rw [Array.length_toList, List.length_map] at q
    exact q
  obtain ⟨c, tl, hmro⟩ := F.called_set.mro
  have hmade := F.called_set.made
  have hsub := F.called_set.sub
  refine wpAny_call (codeAny_of_tree ?_)
  show wpAny _ _ (callAny (.type "set") _) _ _ _
  refine wpAny_pure ⟨Code.quiet_builtin _ (by decide +kernel), codeAny_builtin F.entry_type_call ?_⟩
  rw [Around.under_plain (weight_type_call_type "set" [.ref l] []) rfl]
  have k1 := F.called_set.notType
  have k2 := F.called_set.canCreate
  have k3 := F.typeCall_set_1 (.ref l)
  repeat (any_goals (first | assumption | wp_step))
  refine codeAny_mono (code_set_led1 (.ref l) (E := E) (Q₁ := fun obj s1 => obj = .ref s.heap.objs.size ∧ s1 = { s with heap := s.heap.push (newSet w) }) ⟨rfl, rfl⟩) fun r s1 hr => ?_
  cases r with
  | error e => exact hr
  | ok fl =>
    cases fl with
    | ret obj =>
      obtain ⟨rfl, rfl⟩ := hr
      have hS : (s.heap.push (newSet w)).get? s.heap.objs.size = some (newSet w) := Heap.get?_push_size _ rfl
      have hT : Shared.TypeIs { s with heap := s.heap.push (newSet w) } (.ref s.heap.objs.size) "set" := ⟨_, hS, rfl⟩
      have k4 := F.called_set.init.lookup
      have k5 := F.called_set.init.bind (.ref s.heap.objs.size)
      repeat (any_goals (first | assumption | wp_step))
      refine codeAny_mono (codeAny_call_builtin (R := wants (fun r s2 => r = .none ∧ ∃ h1 tk L es ep t, s2 = { s with heap := h1, toks := tk } ∧ SetR P w h1 s.heap.objs.size L es ep t ∧ Has ks ks.length L ∧
          (∀ b o, s.heap.get? b = some o → h1.get? b = some o)) E) F.called_set.init.plain F.entry_set_init (check_set_init_1 hT ?_)) fun r2 s2 hr2 => ?_
      · obtain ⟨ol, hol, hcl, nl, hdl⟩ := hl
        obtain ⟨ocls, odict, odata, oslots⟩ := ol
        simp only at hcl hdl
        subst hcl; subst hdl
        have hol1 : (s.heap.push (newSet w)).get? l = some { cls := .type "list", dict := odict, data := .seq items nl, slots := oslots } := Heap.get?_push_of_some _ hol
        have k6 := F.sub_list_set
        have k7 := F.sub_list_frozenset
        have k8 : (Value.type "list" == Value.type "dict") = false := by decide
        have hl1 : (s.heap.push (newSet w)).IsList l items := ⟨_, hol1, rfl, nl, rfl⟩
        unfold Builtin.«set.__init__» noKeywords Builtin.Frozenset.updateFrom
        generalize hPI : pyIter = PI
        wp_walk
        subst hPI
        refine wpAny_pyIter_list hl1 ?_
        refine wpAny_bind (wpAny_runValue ?_)
        have hlS : l < s.heap.objs.size := Heap.lt_size hol
        have hh3 : A.in1.in1.in1.handled = none := by simp [hh]
        have hneI : l ≠ (s.heap.push (newSet w)).objs.size := by
          rw [Heap.size_push]; exact Nat.ne_of_lt (Nat.lt_succ_of_lt hlS)
        have nS : s.heap.objs.size ∉ [(s.heap.push (newSet w)).objs.size, l] := by
          rw [Heap.size_push]; simp only [List.mem_cons, List.mem_singleton, List.not_mem_nil, or_false, not_or]
          exact ⟨Nat.ne_of_lt (Nat.lt_succ_self _), Nat.ne_of_gt hlS⟩
        have hval : ∀ (i : Nat) (v : Value), items[i]? = some v → ∃ q, ks[i]? = some q ∧ v = .ref q.1 := fun i v hv => by
          have q : items.toList[i]? = some v := by rw [Array.getElem?_toList]; exact hv
          rw [hit, List.getElem?_map] at q
          cases hq : ks[i]? with
          | none => rw [hq] at q; cases q
          | some p =>
            rw [hq] at q
            exact ⟨p, rfl, (Option.some.inj q).symm⟩
        have none_of : ∀ b, s.heap.objs.size ≤ b → s.heap.get? b = none := fun b hb => by
          cases q : s.heap.get? b with
          | none => rfl
          | some o => exact absurd (Nat.lt_of_lt_of_le (Heap.lt_size q) hb) (Nat.lt_irrefl _)
        refine filling ((Walks.list hh3 _ l hneI items).toS) s.heap.objs.size
          nS ks hisz cap hval s.heap hk (none_of _ (Nat.le_refl _)) (fun b hb => none_of b (by
            rw [List.mem_singleton.mp hb, Heap.size_push]
            exact Nat.le_succ _)) hu (items.size - 0) 0 _ (by omega) (Nat.zero_le _)
          ⟨⟨_, Heap.get?_push_size _ rfl, rfl, rfl⟩, (hl1.push _)⟩ (fun b o e => Heap.get?_push_of_some _ (Heap.get?_push_of_some _ e)) ?hS0 ?hR
        case hS0 =>
          have hget : ((s.heap.push (newSet w)).push { cls := .type "list_iterator", data := .fields #[.ref l, .int 0 0] }).get? s.heap.objs.size = some (newSet w) := Heap.get?_push_of_some _ hS
          exact ⟨[], #[], 0, _, setR_new hget, Has.zero ks⟩
        case hR =>
          intro s1 L es ep t hm z g kp
          obtain ⟨h1, g2, d1, tk1, os1⟩ := s1
          obtain rfl : g2 = s.gens := hm.gens
          obtain rfl : d1 = s.drawn := hm.drawn
          obtain rfl : os1 = s.os := hm.os
          show wpAny _ _ _ _ _ _
          refine wpAny_pure ?_
          show wpAny _ _ (ret Value.none) _ _ _
          rw [hisz] at g
          exact wpAny_pure ⟨rfl, h1, tk1, L, es, ep, t, rfl, z, g, kp⟩
      · cases r2 with
        | error e => exact hr2
        | ok fl2 =>
          cases fl2 with
          | ret r =>
            obtain ⟨rfl, h1, tk, L, es, ep, t, rfl, z, g, kp⟩ := hr2
            repeat (any_goals (first | assumption | wp_step))
            exact h _ _ _ _ _ _ z g kp
          | _ => exact hr2.elim
    | _ => exact hr.elim
end
end SetK
namespace SetK
open PySem PySem.Spec PyProof.Rows L2

theorem perm_back {α β : Type} (f : α → β) {l m : List β} (pm : l.Perm m) : ∀ L : List α, m = L.map f → ∃ L1 : List α, L1.Perm L ∧ l = L1.map f := by
  induction pm with
  | nil =>
    intro L e
    cases L with
    | nil => exact ⟨[], .nil, rfl⟩
    | cons _ _ => cases e
  | cons x _ ih =>
    intro L e
    cases L with
    | nil => cases e
    | cons y L =>
      rw [List.map_cons] at e
      injection e with e1 e2
      obtain ⟨L1, p1, e3⟩ := ih L e2
      exact ⟨y :: L1, p1.cons y, by rw [List.map_cons, e1, e3]⟩
  | swap x y l =>
    intro L e
    match L, e with
    | a :: b :: L, e =>
      rw [List.map_cons, List.map_cons] at e
      injection e with e1 e2
      injection e2 with e2 e3
      exact ⟨b :: a :: L, .swap a b L, by rw [List.map_cons, List.map_cons, e1, e2, e3]⟩
  | trans _ _ ih1 ih2 =>
    intro L e
    obtain ⟨L2, p2, e2⟩ := ih2 L e
    obtain ⟨L1, p1, e1⟩ := ih1 L2 e2
    exact ⟨L1, p1.trans p2, e1⟩

/-- a tuple of texts as data -/
abbrev encT (x : List Str) : PyData := .tuple (x.map .str)
abbrev leT (a b : List Str) : Bool := PySem.W.dataLe false encT a b
theorem leT_total : PySem.W.TotalLe leT := PySem.W.sortLe_total _ _ _
theorem toks_inj : ∀ x y : List Str, PySem.W.keyToksAll (x.map .str) = PySem.W.keyToksAll (y.map .str) → x = y
  | [], [], _ => rfl
  | [], _ :: _, e => by simp [PySem.W.keyToksAll] at e
  | _ :: _, [], e => by simp [PySem.W.keyToksAll] at e
  | a :: x, b :: y, e => by
    simp only [List.map_cons, PySem.W.keyToksAll, PySem.W.keyToks, List.cons_append, List.nil_append] at e
    injection e with _ e
    injection e with e1 e2
    injection e1 with e1
    rw [PySem.W.str_of_cps e1, toks_inj x y e2]
theorem leT_anti {a b : List Str} (h1 : leT a b = true) (h2 : leT b a = true) : a = b := by
  have q1 : PyProof.Rows.lexLt PyProof.Rows.itemOrd (PySem.W.keyToks (encT b)) (PySem.W.keyToks (encT a)) = false := by simpa [leT, PySem.W.dataLe, PySem.W.sortLe] using h1
  have q2 : PyProof.Rows.lexLt PyProof.Rows.itemOrd (PySem.W.keyToks (encT a)) (PySem.W.keyToks (encT b)) = false := by simpa [leT, PySem.W.dataLe, PySem.W.sortLe] using h2
  exact toks_inj a b (PyProof.Rows.lex_total _ _ q2 q1)
/-- sorted and each once: one list alone -/
theorem sorted_one : ∀ {m n : List (List Str)}, m.Pairwise (fun a b => leT a b = true) → n.Pairwise (fun a b => leT a b = true) → m.Nodup → n.Nodup → (∀ x, x ∈ m ↔ x ∈ n) → m = n
  | [], [], _, _, _, _, _ => rfl
  | [], y :: n, _, _, _, _, h => absurd ((h y).mpr List.mem_cons_self) (by simp)
  | x :: m, [], _, _, _, _, h => absurd ((h x).mp List.mem_cons_self) (by simp)
  | x :: m, y :: n, h1, h2, d1, d2, h => by
    obtain ⟨a1, b1⟩ := List.pairwise_cons.mp h1
    obtain ⟨a2, b2⟩ := List.pairwise_cons.mp h2
    obtain ⟨c1, e1⟩ := List.nodup_cons.mp d1
    obtain ⟨c2, e2⟩ := List.nodup_cons.mp d2
    have xy : x = y := by
      rcases List.mem_cons.mp ((h x).mp List.mem_cons_self) with e | hx
      · exact e
      · rcases List.mem_cons.mp ((h y).mpr List.mem_cons_self) with e | hy
        · exact e.symm
        · exact leT_anti (a1 y hy) (a2 x hx)
    subst xy
    rw [sorted_one b1 b2 e1 e2 fun z => ?_]
    constructor
    · intro hz
      rcases List.mem_cons.mp ((h z).mp (List.mem_cons_of_mem _ hz)) with e | q
      · subst e; exact absurd hz c1
      · exact q
    · intro hz
      rcases List.mem_cons.mp ((h z).mpr (List.mem_cons_of_mem _ hz)) with e | q
      · subst e; exact absurd hz c2
      · exact q

/-- each once -/
def once : List (List Str) → List (List Str)
  | [] => []
  | x :: r => if x ∈ once r then once r else x :: once r
theorem mem_once : ∀ (l : List (List Str)) (x : List Str), x ∈ once l ↔ x ∈ l
  | [], x => Iff.rfl
  | y :: r, x => by
    unfold once
    split
    · rename_i hy
      rw [mem_once r x, List.mem_cons]
      constructor
      · exact .inr
      · rintro (rfl | h)
        · exact (mem_once r x).mp hy
        · exact h
    · rw [List.mem_cons, List.mem_cons, mem_once r x]
theorem nodup_once : ∀ l : List (List Str), (once l).Nodup
  | [] => List.nodup_nil
  | y :: r => by
    unfold once
    split
    · exact nodup_once r
    · rename_i h
      exact List.nodup_cons.mpr ⟨h, nodup_once r⟩
/-- what sorted(set(l)) has -/
def sset (l : List (List Str)) : List (List Str) := (once l).mergeSort leT
theorem sset_is {l m : List (List Str)} (h1 : m.Pairwise (fun a b => leT a b = true)) (d : m.Nodup) (h : ∀ x, x ∈ m ↔ x ∈ l) : m = sset l := by
  refine sorted_one h1 (PySem.W.sort_pairwise leT_total _) d ((List.mergeSort_perm _ _).nodup_iff.mpr (nodup_once l)) fun x => ?_
  unfold sset
  rw [(List.mergeSort_perm _ _).mem_iff, mem_once]
  exact h x
theorem mem_sset {l : List (List Str)} {x : List Str} : x ∈ sset l ↔ x ∈ l := by
  unfold sset
  rw [(List.mergeSort_perm _ _).mem_iff, mem_once]
theorem nodup_sset (l : List (List Str)) : (sset l).Nodup := (List.mergeSort_perm _ _).nodup_iff.mpr (nodup_once l)
theorem sset_eq {l m : List (List Str)} (h : ∀ x, x ∈ l ↔ x ∈ m) : sset l = sset m := by
  refine sset_is (PySem.W.sort_pairwise leT_total _) ((List.mergeSort_perm _ _).nodup_iff.mpr (nodup_once l)) fun x => ?_
  show x ∈ sset l ↔ x ∈ m
  rw [mem_sset]
  exact h x

section
variable {P : Program} {w : World} {A : Around} {E : Value → Shared → Prop} {s : Shared}
abbrev asK (q : Addr × List Str) : Addr × List Key := (q.1, q.2.map Sum.inr)
theorem inr_inj : ∀ {x y : List Str}, x.map (Sum.inr : Str → Key) = y.map Sum.inr → x = y
  | [], [], _ => rfl
  | [], _ :: _, e => by cases e
  | _ :: _, [], e => by cases e
  | a :: x, b :: y, e => by
    rw [List.map_cons, List.map_cons] at e
    injection e with e1 e2
    injection e1 with e1
    rw [e1, inr_inj e2]
theorem reads_strs {h : Heap} : ∀ {x : List Str} {vs : List Value}, ItemsAre (mixKind P w) (x.map Sum.inr) vs → ReadsAll h vs (x.map .str) []
  | [], _, .nil => .nil
  | a :: x, _, .cons h1 h2 => by
    rcases keyIs_shape (show keyIs (Sum.inr a) _ = true from h1) with ⟨i, t, e, _⟩ | ⟨y, t, e, rfl⟩
    · exact nomatch e
    · injection e with e
      subst e
      exact .cons (.str _ _) (reads_strs h2)
theorem reads_tk {h : Heap} {x : List Str} {b : Addr} (z : Tk P w h (x.map Sum.inr) b) : Reads h (.ref b) (encT x) [] := by
  obtain ⟨o, its, n, ho, hc, hd, hi⟩ := z
  exact .tuple ho hc hd (reads_strs hi)
theorem alike_strs : ∀ x y : List Str, PySem.W.alikeAll (x.map .str) (y.map .str) = true
  | [], _ => by simp [PySem.W.alikeAll]
  | _ :: _, [] => by simp [PySem.W.alikeAll]
  | a :: x, b :: y => by
    simp only [List.map_cons, PySem.W.alikeAll, PySem.W.alike, Bool.true_and]
    exact alike_strs x y
theorem depth_strs : ∀ x : List Str, PyData.depthAll (x.map .str) ≤ 1
  | [] => by simp [PyData.depthAll]
  | a :: x => by
    have := depth_strs x
    simp only [List.map_cons, PyData.depthAll, PyData.depth]
    omega

theorem sorted_set {a : Addr} {L : List (Addr × List Str)} {es : Array (Int × Value)} {ep : Nat} {t : SetTable} {Q : Value → Shared → Prop} (z : SetR P w s.heap a (L.map asK) es ep t) (hh : A.handled = none) (hu : A.units + 100 < cLine)
    (ne : ∀ q ∈ L, q.2 ≠ [])
    (hQ : ∀ s1 p (out : Array Value) (c : Nat) (M : List (Addr × List Str)), (∀ b o, s.heap.get? b = some o → s1.heap.get? b = some o) → s1.gens = s.gens → s1.os = s.os → s.heap.objs.size ≤ p →
      s1.heap.get? p = some (seqObj "list" out c) → out.toList = M.map (fun q => Value.ref q.1) → M.Perm L → M.map (·.2) = sset (L.map (·.2)) → Q (.ref p) s1) :
    wpAny (model P w) A (call (.builtin "sorted") [.ref a]) Q E s := by
  obtain ⟨o, ho, hex, hd⟩ := z.ob
  have hsz := rows_len z.rw_
  rw [List.length_map] at hsz
  have few := z.few
  rw [List.length_map] at few
  refine Calls.call_function_entry kind_sorted plain_sorted entry_sorted (args_sorted1 _) ?_
  unfold Builtin.«sorted»
  refine wpAny_bind (m := checkCount "sorted" 1 1 _) (wpAny_pure ?_)
  refine wpAny_bind (collect_set (A := A.in1) hh ⟨o, ho, hex.1, hd⟩ z.fit (by unfold scanBound; omega) z.tab.ris z.led fun s1 vs k1 hz g1 o1 pm => ?_)
  have hes : es.toList.map (·.2) = L.map fun q => Value.ref q.1 := by
    rw [z.rw_, rows, List.map_map, List.map_map]
    rfl
  rw [hes] at pm
  obtain ⟨L1, p1, ev⟩ := perm_back (fun q : Addr × List Str => Value.ref q.1) pm L rfl
  have hvl : vs.length = L1.length := by rw [ev, List.length_map]
  have hl1 : L1.length = L.length := p1.length_eq
  refine wpAny_bind (wpAny_newList ?_ (by rw [hvl, hl1, sizeLine_eq]; omega))
  have hoL : (s1.heap.push (seqObj "list" vs.toArray 0)).get? s1.heap.objs.size = some (seqObj "list" vs.toArray 0) := Heap.get?_push_size _ rfl
  have rd : ∀ q ∈ L1, Reads (s1.heap.push (seqObj "list" vs.toArray 0)) (.ref q.1) (encT q.2) [] := fun q hq =>
    reads_tk (P := P) (w := w) (tk_keep (z.tup (asK q) (List.mem_map.mpr ⟨q, p1.mem_iff.mp hq, rfl⟩)) fun b u e => Heap.get?_push_of_some _ (k1 b u e))
  have each : ∀ {Rl : Value → Addr × List Str → Prop} (l : List (Addr × List Str)), (∀ q ∈ l, Rl (.ref q.1) q) → PySem.W.EachIs Rl (l.map fun q => Value.ref q.1) l := by
    intro Rl l
    induction l with
    | nil => exact fun _ => .nil
    | cons q l ih => exact fun h => .cons (h q List.mem_cons_self) (ih fun r hr => h r (List.mem_cons_of_mem _ hr))
  have back : ∀ (out : List Value) (l : List (Addr × List Str)), PySem.W.EachIs (fun v q => v = Value.ref q.1) out l → out = l.map fun q => Value.ref q.1 := by
    intro out l h
    induction h with
    | nil => rfl
    | cons e _ ih => rw [e, ih, List.map_cons]
  refine wpAny_bind (wpAny_holding (PySem.W.list_sort_data (s := { s1 with heap := s1.heap.push (seqObj "list" vs.toArray 0) }) (R := fun v q => v = Value.ref q.1) (enc := fun q : Addr × List Str => encT q.2) (bs := L1) hoL (by rw [ev]; exact each L1 fun q _ => rfl)
    (by rw [ev]; exact each L1 fun q hq => ⟨[], by rw [ev] at rd; exact rd q hq, by simp⟩) ?al ?so (by rw [hl1, sizeLine_eq]; omega) ?un fun out hlen ho1 => ?_))
  case al => exact PySem.W.AllAlike.of fun b b' => alike_strs b.2 b'.2
  case so =>
    refine .inl fun d hd => ?_
    obtain ⟨q, hq, rfl⟩ := List.mem_map.mp hd
    have n := ne q (p1.mem_iff.mp hq)
    cases e : q.2 with
    | nil => exact absurd e n
    | cons x r => exact ⟨.str x, r.map .str, rfl⟩
  case un =>
    intro q _
    have d := depth_strs q.2
    have e : (encT q.2).depth ≤ 2 := by
      simp only [PyData.depth]
      omega
    have hu1 : A.in1.units + 1 ≤ A.units + 2 := by
      simp [Around.in1, Around.units]
      try omega
    omega
  have eo := back out _ ho1
  obtain ⟨c, hc⟩ := sortedHeap_at (vs := vs) (out := out.toArray) hoL
  have pM : (L1.mergeSort (PySem.W.dataLe false fun q : Addr × List Str => encT q.2)).Perm L := (List.mergeSort_perm _ _).trans p1
  have srt : (L1.mergeSort (PySem.W.dataLe false fun q : Addr × List Str => encT q.2)).map (·.2) = sset (L.map (·.2)) := by
    refine sset_is ?_ ?_ fun x => ?_
    · rw [List.pairwise_map]
      exact (PySem.W.sort_pairwise (PySem.W.sortLe_total _ _ _) L1).imp fun h => h
    · refine (pM.map (·.2)).nodup_iff.mpr ?_
      have nd := z.nd
      rw [List.map_map] at nd
      refine nodup_of_map (f := fun x : List Str => x.map (Sum.inr : Str → Key)) ?_
      rw [List.map_map]
      exact nd
    · exact (pM.map (·.2)).mem_iff
  refine wpAny_pure ⟨_, rfl, hQ _ s1.heap.objs.size out.toArray c _ (fun b u e => ?_) g1 o1 hz hc (by simpa using eo) pM srt⟩
  have q := k1 b u e
  have hlt := Heap.lt_size q
  show (sortedHeap (s1.heap.push (seqObj "list" vs.toArray 0)) s1.heap.objs.size vs out.toArray).get? b = some u
  rw [sortedHeap_old (Nat.ne_of_lt hlt) (by rw [size_push']; exact Nat.lt_succ_of_lt hlt)]
  exact Heap.get?_push_of_some _ q
end
end SetK
namespace SetK
open PySem PySem.Spec PyProof.Rows L2
/-- the set's own object, the tuples left out -/
def SetE (P : Program) (w : World) (a : Addr) (L : List (Addr × List Str)) (h : Heap) : Prop := ∃ (es : Array (Int × Value)) (ep : Nat) (t : SetTable), (∃ o, h.get? a = some o ∧ o.ExactSet ∧ o.data = .set es ep t) ∧ es.toList = rows P w (L.map asK) ∧
  TabOk t ((L.map asK).map fun q => kh P w q.2) ∧ ((L.map asK).map (·.2)).Nodup ∧ (w.params.followText "set-order" = true ∨ t.led = true) ∧ (L.map asK).length * 5 < t.mask * 3 ∧ (L.map asK).length < 64
def SetH (P : Program) (w : World) (a : Addr) (L : List (Addr × List Str)) : HO := .ext (SetE P w a L)
section
variable {P : Program} {w : World}
theorem SetR.thin {h : Heap} {a : Addr} {L : List (Addr × List Str)} {es : Array (Int × Value)} {ep : Nat} {t : SetTable} (z : SetR P w h a (L.map asK) es ep t) : SetE P w a L h :=
  ⟨es, ep, t, z.ob, z.rw_, z.tab, z.nd, z.led, z.room, z.few⟩
theorem SetE.full {h : Heap} {a : Addr} {L : List (Addr × List Str)} (z : SetE P w a L h) (ht : ∀ q ∈ L, Tk P w h (q.2.map Sum.inr) q.1) : ∃ es ep t, SetR P w h a (L.map asK) es ep t := by
  obtain ⟨es, ep, t, h1, h2, h3, h4, h5, h6, h7⟩ := z
  refine ⟨es, ep, t, h1, h2, h3, h4, fun q hq => ?_, h5, h6, h7⟩
  obtain ⟨r, hr, rfl⟩ := List.mem_map.mp hq
  exact ht r hr
theorem setH_ok {H : Hp} {h : Heap} {a : Addr} {L : List (Addr × List Str)} (z : SetE P w a L h) : ObjOk P w H h a (SetH P w a L) := by
  obtain ⟨es, ep, t, ⟨o, ho, r⟩, q⟩ := id z
  refine ⟨z, ⟨o, ho⟩, fun h1 h2 p k => ?_⟩
  obtain ⟨es1, ep1, t1, ⟨o1, ho1, r1⟩, q1⟩ := p
  exact ⟨es1, ep1, t1, ⟨o1, k o1 ho1, r1⟩, q1⟩
theorem items_strs : ∀ {x : List Str} {us : List Value}, Vals (x.map V.str) us → ItemsAre (mixKind P w) (x.map Sum.inr) us
  | [], _, .nil => .nil
  | n :: x, _, .cons r t => by
    obtain ⟨tk, rfl⟩ := r
    exact .cons (mixKind_str P w n tk) (items_strs t)
theorem refs_back : ∀ {ks : List (Addr × List Str)} {us : List Value}, Vals (ks.map fun q => V.ref q.1) us → us = ks.map fun q => Value.ref q.1
  | [], _, .nil => rfl
  | _ :: ks, _, .cons r t => by
    cases r
    rw [refs_back t]
    rfl
theorem refs_vals : ∀ ks : List (Addr × List Str), Vals (ks.map fun q => V.ref q.1) (ks.map fun q => Value.ref q.1)
  | [] => .nil
  | _ :: ks => .cons rfl (refs_vals ks)
end
section
variable {X : Cx}
theorem inv_tk {pins : List (Addr × Obj)} {σ : L2.St} {H : Hp} {s : Shared} {b : Addr} {x : List Str} (I : L2.Inv X pins σ H s) (h : SqT X.K H b (x.map V.str)) : Tk X.prog X.w s.heap (x.map Sum.inr) b := by
  obtain ⟨its, r, ⟨o, ho, hc, n, hd⟩, _⟩ := I.tuple h
  exact ⟨o, its.toArray, n, ho, hc, hd, by simpa using items_strs r⟩
/-- not so many unlike ones -/
def FewS (ks : List (List Str)) : Prop := ∀ l : List (List Str), l.Nodup → (∀ x ∈ l, x ∈ ks) → l.length < 64
/-- set(xs), xs a list of tuples of texts -/
def rSetS (K : PySem.W.Frag) (P : Program) (w : World) : List V → Hp → VK → Prop := fun xs H Q => ∃ (l : Addr) (ks : List (Addr × List Str)), xs = [V.ref l] ∧ SqL K H l (ks.map fun q => V.ref q.1) ∧ (∀ q ∈ ks, SqT K H q.1 (q.2.map V.str)) ∧ FewS (ks.map (·.2)) ∧
  ∀ a L, H a = none → (∀ q ∈ L, q ∈ ks) → (∀ q ∈ ks, q.2 ∈ L.map (·.2)) → Q (.ref a) (upd H a (SetH P w a L))
theorem few_of {ks : List (Addr × List Str)} (f : FewS (ks.map (·.2))) : Few (ks.map asK) := fun L nd hs => by
  obtain ⟨M, e⟩ : ∃ M : List (Addr × List Str), L = M.map asK ∧ ∀ q ∈ M, q ∈ ks := by
    clear nd
    induction L with
    | nil => exact ⟨[], rfl, fun _ z => nomatch z⟩
    | cons q L ih =>
      obtain ⟨M, e, hM⟩ := ih fun r hr => hs r (List.mem_cons_of_mem _ hr)
      obtain ⟨m, hm, em⟩ := List.mem_map.mp (hs q List.mem_cons_self)
      refine ⟨m :: M, by rw [List.map_cons, em, e], fun r hr => ?_⟩
      rcases List.mem_cons.mp hr with rfl | y
      · exact hm
      · exact hM r y
  obtain ⟨rfl, hM⟩ := e
  have h1 := f (M.map (·.2)) (by
    refine nodup_of_map (f := fun x : List Str => x.map (Sum.inr : Str → Key)) ?_
    rw [List.map_map]
    rw [List.map_map] at nd
    exact nd) fun x hx => by
      obtain ⟨q, hq, rfl⟩ := List.mem_map.mp hx
      exact List.mem_map.mpr ⟨q, hM q hq, rfl⟩
  rw [List.length_map] at h1 ⊢
  exact h1
theorem cr_setS (hc : X.calm = true) (hu : X.A.units + 100 < cLine) : CallR X (.type "set") (rSetS X.K X.prog X.w) := by
  intro pins s σ H xs us Q I r h
  obtain ⟨l, ks, rfl, hl, hk, hf, q⟩ := h
  rw [Vals.ref1 r]
  obtain ⟨its, rv, pl, _⟩ := I.list hl
  have hn : H s.heap.objs.size = none := I.hok.fresh (Nat.le_refl _)
  refine call_set (P := X.prog) (w := X.w) (ks.map asK) (I.ok.hd hc) pl.isList (by rw [List.map_map]; exact refs_back rv) (fun p hp => ?_) (few_of hf) (by omega) fun h1 tk L es ep t z g k => ?_
  · obtain ⟨m, hm, rfl⟩ := List.mem_map.mp hp
    exact inv_tk I (hk m hm)
  · obtain ⟨M, e, hM⟩ : ∃ M : List (Addr × List Str), L = M.map asK ∧ ∀ q ∈ M, q ∈ ks := by
      have gs := g.sub
      clear g z
      induction L with
      | nil => exact ⟨[], rfl, fun _ z => nomatch z⟩
      | cons q L ih =>
        obtain ⟨M, e, hM⟩ := ih fun r hr => gs r (List.mem_cons_of_mem _ hr)
        obtain ⟨m, hm, em⟩ := List.mem_map.mp (gs q List.mem_cons_self)
        refine ⟨m :: M, by rw [List.map_cons, em, e], fun r hr => ?_⟩
        rcases List.mem_cons.mp hr with rfl | y
        · exact hm
        · exact hM r y
    subst e
    refine ⟨.ref s.heap.objs.size, upd H s.heap.objs.size (SetH X.prog X.w s.heap.objs.size M), I.laid (t' := tk) k (Nat.le_refl _) (setH_ok z.thin), rfl, q _ M hn hM fun p hp => ?_⟩
    have y := g.all (asK p) (by rw [List.take_length]; exact List.mem_map.mpr ⟨p, hp, rfl⟩)
    rw [List.map_map] at y
    obtain ⟨m, hm, e⟩ := List.mem_map.mp y
    exact List.mem_map.mpr ⟨m, hm, inr_inj e⟩
/-- sorted(s), s such a set -/
def rSortedS (K : PySem.W.Frag) (P : Program) (w : World) : List V → Hp → VK → Prop := fun vs H Q => ∃ (a : Addr) (L : List (Addr × List Str)), vs = [V.ref a] ∧ H a = some (SetH P w a L) ∧ (∀ q ∈ L, SqT K H q.1 (q.2.map V.str)) ∧ (∀ q ∈ L, q.2 ≠ []) ∧
  ∀ (M : List (Addr × List Str)) (p : Addr), M.Perm L → M.map (·.2) = sset (L.map (·.2)) → H p = none → Q (.ref p) (upd H p (.lst (M.map fun q => V.ref q.1)))
theorem cr_sortedS (hc : X.calm = true) (hu : X.A.units + 100 < cLine) : CallR X (.builtin "sorted") (rSortedS X.K X.prog X.w) := by
  intro pins s σ H vs us Q I r h
  obtain ⟨a, L, rfl, ha, hk, ne, q⟩ := h
  have z0 : SetE X.prog X.w a L s.heap := (I.hok a _ ha).1
  obtain ⟨es, ep, t, z⟩ := z0.full fun p hp => inv_tk I (hk p hp)
  rw [Vals.ref1 r]
  refine sorted_set z (I.ok.hd hc) hu ne fun s1 p out c M k g o hp hg hout pm em => ?_
  have few := z.few
  rw [List.length_map] at few
  have hlen : (M.map fun q => V.ref q.1).length ≤ sizeLine := by rw [List.length_map, pm.length_eq, sizeLine_eq]; omega
  have hn : H p = none := I.hok.fresh hp
  have hv : Vals (M.map fun q => V.ref q.1) out.toList := by rw [hout]; exact refs_vals M
  have J : Inv X pins σ (upd H p (.lst (M.map fun q => V.ref q.1))) { s with heap := s1.heap, gens := s1.gens, drawn := s1.drawn, toks := s1.toks } :=
    I.call (ch := []) (Un.laid k hp hn) (I.hok.laid k hp ⟨hlen, out.toList, c, hv, hg⟩) (by rw [g]; exact I.bare) (fun _ y => nomatch y)
  have e : s1 = { s with heap := s1.heap, gens := s1.gens, drawn := s1.drawn, toks := s1.toks } := by
    cases s1
    cases s
    cases o
    rfl
  rw [e]
  exact ⟨.ref p, _, J, rfl, q M p pm em hn⟩
end
end SetK
/-! data that stand still (F), what may change (M), evaluation to data (ED). -/
namespace Ly
open PySem L2

/-- from (F, H) on: F grows, H is kept but at M, what is new in F is new in H -/
structure Gr (M : List Addr) (F H F1 H1 : Hp) : Prop where
  ff : Same F F1
  fh : Same F1 H1
  hh : ∀ b o, b ∉ M → H b = some o → H1 b = some o
  nw : ∀ b o, F1 b = some o → F b = some o ∨ H b = none
  dm : ∀ b, H1 b = none → H b = none
section
variable {M M1 : List Addr} {F H F1 H1 F2 H2 F0 H0 : Hp} {p : Addr} {o u : HO}
theorem Gr.refl (h : Same F H) : Gr M F H F H := ⟨Same.refl F, h, fun _ _ _ e => e, fun _ _ e => .inl e, fun _ e => e⟩
theorem Gr.trans (g : Gr M F0 H0 F H) (k : Gr M1 F H F1 H1) (s : ∀ b ∈ M1, b ∈ M ∨ H0 b = none) : Gr M F0 H0 F1 H1 := by
  refine ⟨g.ff.trans k.ff, k.fh, fun b o hb e => ?_, fun b o e => ?_, fun b e => g.dm b (k.dm b e)⟩
  · refine k.hh b o (fun z => ?_) (g.hh b o hb e)
    rcases s b z with y | y
    · exact hb y
    · rw [y] at e; cases e
  · rcases k.nw b o e with z | z
    · exact g.nw b o z
    · exact .inr (g.dm b z)
theorem Gr.tr (g : Gr M F0 H0 F H) (k : Gr [] F H F1 H1) : Gr M F0 H0 F1 H1 := g.trans k fun _ z => nomatch z
theorem Gr.trM (g : Gr M F0 H0 F H) (k : Gr M F H F1 H1) : Gr M F0 H0 F1 H1 := g.trans k fun _ z => .inl z
theorem Gr.widen (g : Gr M F H F1 H1) (s : ∀ b ∈ M, b ∈ M1) : Gr M1 F H F1 H1 := ⟨g.ff, g.fh, fun b o hb e => g.hh b o (fun z => hb (s b z)) e, g.nw, g.dm⟩
theorem ne_some {H : Hp} {a b : Addr} (h : H a = none) (h1 : H b = some o) : b ≠ a := fun e => by rw [e, h] at h1; cases h1
theorem same_none (s : Same F H) (h : H p = none) : F p = none := s.free h
theorem upd_eq_none {a b : Addr} (h : upd H a o b = none) : H b = none := by
  by_cases e : b = a
  · subst e; rw [upd_same] at h; cases h
  · rw [upd_ne e] at h; exact h
/-- a new thing that stands still -/
theorem Gr.new (g : Gr M F0 H0 F H) (h : H p = none) : Gr M F0 H0 (upd F p o) (upd H p o) := by
  have hF : F p = none := same_none g.fh h
  refine ⟨fun b x e => ?_, fun b x e => ?_, fun b x hb e => ?_, fun b x e => ?_, fun b e => g.dm b (upd_eq_none e)⟩
  · have z := g.ff b x e
    rw [upd_ne (ne_some hF z)]; exact z
  · by_cases c : b = p
    · subst c; rw [upd_same] at e ⊢; exact e
    · rw [upd_ne c] at e ⊢; exact g.fh b x e
  · have z := g.hh b x hb e
    rw [upd_ne (ne_some h z)]; exact z
  · by_cases c : b = p
    · subst c; exact .inr (g.dm b h)
    · rw [upd_ne c] at e; exact g.nw b x e
/-- a new thing that may change -/
theorem Gr.newM (g : Gr M F0 H0 F H) (h : H p = none) : Gr M F0 H0 F (upd H p o) := by
  refine ⟨g.ff, fun b x e => ?_, fun b x hb e => ?_, g.nw, fun b e => g.dm b (upd_eq_none e)⟩
  · have z := g.fh b x e
    rw [upd_ne (ne_some h z)]; exact z
  · have z := g.hh b x hb e
    rw [upd_ne (ne_some h z)]; exact z
/-- a change at what doesn't stand still -/
theorem Gr.put (g : Gr M F0 H0 F H) (hF : F p = none) (h : p ∈ M ∨ H0 p = none) : Gr M F0 H0 F (upd H p o) := by
  refine ⟨g.ff, fun b x e => ?_, fun b x hb e => ?_, g.nw, fun b e => g.dm b (upd_eq_none e)⟩
  · rw [upd_ne (ne_some hF e)]; exact g.fh b x e
  · have c : b ≠ p := fun z => by
      subst z
      rcases h with h | h
      · exact hb h
      · rw [h] at e; cases e
    rw [upd_ne c]; exact g.hh b x hb e
/-- from now on it stands still -/
theorem Gr.freeze (g : Gr M F0 H0 F H) (h : H p = some o) (hF : F p = none) (h0 : H0 p = none) : Gr M F0 H0 (upd F p o) H := by
  refine ⟨fun b x e => ?_, fun b x e => ?_, g.hh, fun b x e => ?_, g.dm⟩
  · have z := g.ff b x e
    rw [upd_ne (ne_some hF z)]; exact z
  · by_cases c : b = p
    · subst c; rw [upd_same] at e; rw [← e]; exact h
    · rw [upd_ne c] at e; exact g.fh b x e
  · by_cases c : b = p
    · subst c; exact .inr h0
    · rw [upd_ne c] at e; exact g.nw b x e
theorem Gr.still (g : Gr M F H F1 H1) (hF : F p = none) (h : H p = some o) : F1 p = none := by
  cases e : F1 p with
  | none => rfl
  | some x =>
    rcases g.nw p x e with z | z
    · rw [hF] at z; cases z
    · rw [h] at z; cases z
end

/-- F grows, H any that has it -/
structure Bx (F H F1 H1 : Hp) : Prop where
  ff : Same F F1
  fh : Same F1 H1
theorem Bx.refl {F H : Hp} (s : Same F H) : Bx F H F H := ⟨Same.refl F, s⟩
theorem Bx.tr {M : List Addr} {F H F1 H1 F2 H2 : Hp} (g : Bx F H F1 H1) (k : Gr M F1 H1 F2 H2) : Bx F H F2 H2 := ⟨g.ff.trans k.ff, k.fh⟩
theorem Gr.bx {M : List Addr} {F H F1 H1 : Hp} (g : Gr M F H F1 H1) : Bx F H F1 H1 := ⟨g.ff, g.fh⟩
/-! ### values as data -/
mutual
inductive R (K : PySem.W.Frag) (F : Hp) : V → PyData → Prop
  | non : R K F .non .none
  | bl (b : Bool) : R K F (.bl b) (.bool b)
  | int (i : Int) : R K F (.int i) (.int i)
  | str (x : Str) : R K F (.str x) (.str x)
  | lst {a : Addr} {xs : List V} {ds : List PyData} : F a = some (.lst xs) → RA K F xs ds → R K F (.ref a) (.list ds)
  | tup {a : Addr} {xs : List V} {ds : List PyData} : SqT K F a xs → RA K F xs ds → R K F (.ref a) (.tuple ds)
inductive RA (K : PySem.W.Frag) (F : Hp) : List V → List PyData → Prop
  | nil : RA K F [] []
  | cons {v : V} {vs : List V} {d : PyData} {ds : List PyData} : R K F v d → RA K F vs ds → RA K F (v :: vs) (d :: ds)
end
section
variable {K : PySem.W.Frag} {F F1 H : Hp}
theorem sqT_same (s : Same F F1) {a : Addr} {xs : List V} (h : SqT K F a xs) : SqT K F1 a xs := by
  rcases h with (h | ⟨o, h⟩) | h
  · exact .inl (.inl (s _ _ h))
  · exact .inl (.inr ⟨o, s _ _ h⟩)
  · exact .inr h
mutual
theorem R.up (s : Same F F1) : ∀ (d : PyData) (v : V), R K F v d → R K F1 v d
  | _, _, .non => .non
  | _, _, .bl b => .bl b
  | _, _, .int i => .int i
  | _, _, .str x => .str x
  | .list ds, _, .lst h a => .lst (s _ _ h) (RA.up s ds _ a)
  | .tuple ds, _, .tup h a => .tup (sqT_same s h) (RA.up s ds _ a)
theorem RA.up (s : Same F F1) : ∀ (ds : List PyData) (vs : List V), RA K F vs ds → RA K F1 vs ds
  | [], _, .nil => .nil
  | d :: ds, _, .cons h t => .cons (R.up s d _ h) (RA.up s ds _ t)
end
theorem R.at {v : V} {d : PyData} (r : R K F v d) (s : Same F F1) : R K F1 v d := R.up s d v r
theorem RA.at {v : List V} {d : List PyData} (r : RA K F v d) (s : Same F F1) : RA K F1 v d := RA.up s d v r
mutual
theorem R.dp (s : Same F H) : ∀ (d : PyData) (v : V), R K F v d → Dp K H v d
  | _, _, .non => .non
  | _, _, .bl b => .bl b
  | _, _, .int i => .int i
  | _, _, .str x => .str x
  | .list ds, _, .lst h a => .lst (.inl (.inl (s _ _ h))) (RA.dp s ds _ a)
  | .tuple ds, _, .tup h a => .tup (sqT_same s h) (RA.dp s ds _ a)
theorem RA.dp (s : Same F H) : ∀ (ds : List PyData) (vs : List V), RA K F vs ds → DpAll K H vs ds
  | [], _, .nil => .nil
  | d :: ds, _, .cons h t => .cons (R.dp s d _ h) (RA.dp s ds _ t)
end
theorem RA.len : ∀ {vs : List V} {ds : List PyData}, RA K F vs ds → vs.length = ds.length
  | _, _, .nil => rfl
  | _, _, .cons _ t => by rw [List.length_cons, List.length_cons, RA.len t]
theorem RA.get : ∀ {vs : List V} {ds : List PyData} {i : Nat} {d : PyData}, RA K F vs ds → ds[i]? = some d → ∃ v, vs[i]? = some v ∧ R K F v d
  | _, _, _, _, .nil, e => by simp at e
  | _, _, 0, _, .cons h _, e => by
    simp only [List.getElem?_cons_zero, Option.some.injEq] at e
    subst e
    exact ⟨_, rfl, h⟩
  | _, _, i + 1, d, .cons _ t, e => by
    obtain ⟨v, h1, h2⟩ := RA.get (i := i) t (by simpa using e)
    exact ⟨v, by simpa using h1, h2⟩
theorem RA.app : ∀ {vs us : List V} {ds es : List PyData}, RA K F vs ds → RA K F us es → RA K F (vs ++ us) (ds ++ es)
  | _, _, _, _, .nil, s => s
  | _, _, _, _, .cons h t, s => .cons h (RA.app t s)
theorem RA.drop : ∀ {vs : List V} {ds : List PyData} (n : Nat), RA K F vs ds → RA K F (vs.drop n) (ds.drop n)
  | _, _, 0, r => r
  | _, _, _ + 1, .nil => .nil
  | _, _, n + 1, .cons _ t => RA.drop n t
theorem RA.take : ∀ {vs : List V} {ds : List PyData} (n : Nat), RA K F vs ds → RA K F (vs.take n) (ds.take n)
  | _, _, 0, _ => .nil
  | _, _, _ + 1, .nil => .nil
  | _, _, n + 1, .cons h t => .cons h (RA.take n t)
theorem RA.uncons {vs : List V} {d : PyData} {ds : List PyData} (r : RA K F vs (d :: ds)) : ∃ v us, vs = v :: us ∧ R K F v d ∧ RA K F us ds := by
  cases r with
  | cons h t => exact ⟨_, _, rfl, h, t⟩
theorem R.notNone {v : V} {d : PyData} {ds : List PyData} (r : R K F v d) (e : d = .tuple ds) : v ≠ .non := by
  subst e
  intro z
  subst z
  cases r
theorem R.asInt {v : V} {i : Int} (r : R K F v (.int i)) : v = .int i := by cases r; rfl
theorem R.asBl {v : V} {b : Bool} (r : R K F v (.bool b)) : v = .bl b := by cases r; rfl
theorem R.asStr {v : V} {x : Str} (r : R K F v (.str x)) : v = .str x := by cases r; rfl
theorem R.asTup {v : V} {ds : List PyData} (r : R K F v (.tuple ds)) : ∃ a xs, v = .ref a ∧ SqT K F a xs ∧ RA K F xs ds := by
  cases r with
  | tup h a => exact ⟨_, _, rfl, h, a⟩
theorem R.asLst {v : V} {ds : List PyData} (r : R K F v (.list ds)) : ∃ a xs, v = .ref a ∧ F a = some (.lst xs) ∧ RA K F xs ds := by
  cases r with
  | lst h a => exact ⟨_, _, rfl, h, a⟩
/-- the cut of data -/
def cutD (ds : List PyData) (lo hi : Option Int) : List PyData := (ds.drop (HT.sIx ds.length 0 lo)).take (HT.sIx ds.length ds.length hi - HT.sIx ds.length 0 lo)
theorem RA.cut {vs : List V} {ds : List PyData} (r : RA K F vs ds) (lo hi : Option Int) : RA K F (cutV vs lo hi) (cutD ds lo hi) := by
  unfold cutV cutD
  rw [r.len]
  exact (r.drop _).take _
theorem RA.ix {vs : List V} {ds : List PyData} {i : Int} {d : PyData} (r : RA K F vs ds) (e : atI ds i = some d) : ∃ v, atI vs i = some v ∧ R K F v d := by
  unfold atI at e ⊢
  rw [r.len]
  cases q : ixN ds.length i with
  | none => rw [q] at e; cases e
  | some j =>
    rw [q] at e
    exact r.get e
end

/-! ### the rules' readings by names -/
abbrev rTupOf (K : PySem.W.Frag) : List V → Hp → VK → Prop := fun xs H Q => ∃ p ys, xs = [.ref p] ∧ ((SqL K H p ys ∧ ∀ l, H l = none → Q (.ref l) (upd H l (.tup ys))) ∨ (SqT K H p ys ∧ Q (.ref p) H))
abbrev rListOf (K : PySem.W.Frag) : List V → Hp → VK → Prop := fun xs H Q => ∃ p ys, xs = [.ref p] ∧ (SqL K H p ys ∨ SqT K H p ys) ∧ ∀ l, H l = none → Q (.ref l) (upd H l (.lst ys))
abbrev rLenOf (K : PySem.W.Frag) : List V → Hp → VK → Prop := fun xs H Q => ∃ p ys, xs = [.ref p] ∧ (SqL K H p ys ∨ SqT K H p ys) ∧ Q (.int ys.length) H
abbrev rMax2 : List V → Hp → VK → Prop := fun xs H Q => ∃ i j, xs = [.int i, .int j] ∧ Q (.int (if j > i then j else i)) H
abbrev rMin2 : List V → Hp → VK → Prop := fun xs H Q => ∃ i j, xs = [.int i, .int j] ∧ Q (.int (if j < i then j else i)) H
abbrev rIsN0 : R2 := fun x y H Q => y = .non ∧ Q (.bl (decide (x = .non))) H
abbrev rNotN0 : R2 := fun x y H Q => y = .non ∧ Q (.bl (!decide (x = .non))) H
abbrev rAddS : R2 := fun x y H Q => ∃ i j, x = .str i ∧ y = .str j ∧ i.length + j.length ≤ sizeLine ∧ Q (.str (i ++ j)) H

theorem cutD_one (d : PyData) (ds : List PyData) : cutD (d :: ds) (some 1) none = ds := by
  unfold cutD
  rw [show HT.sIx (d :: ds).length 0 (some 1) = min 1 (d :: ds).length from HT.sIx_nat _ 0 1, HT.sIx_none, show min 1 (d :: ds).length = 1 by rw [List.length_cons]; omega]
  show List.take ((d :: ds).length - 1) ds = ds
  rw [List.length_cons, Nat.add_sub_cancel]
  exact List.take_length
theorem cut_ok (d : PyData) (ds : List PyData) : ¬ (HT.sIx (d :: ds).length 0 (some 1) = 0 ∧ HT.sIx (d :: ds).length (d :: ds).length none = (d :: ds).length) := by
  rw [show HT.sIx (d :: ds).length 0 (some 1) = min 1 (d :: ds).length from HT.sIx_nat _ 0 1, show min 1 (d :: ds).length = 1 by rw [List.length_cons]; omega]
  intro z
  cases z.1
theorem cutD_two (d e : PyData) (ds : List PyData) : cutD (d :: e :: ds) (some 2) none = ds := by
  unfold cutD
  rw [show HT.sIx (d :: e :: ds).length 0 (some 2) = min 2 (d :: e :: ds).length from HT.sIx_nat _ 0 2, HT.sIx_none, show min 2 (d :: e :: ds).length = 2 by rw [List.length_cons, List.length_cons]; omega]
  show List.take ((d :: e :: ds).length - 2) ds = ds
  rw [List.length_cons, List.length_cons, show ds.length + 1 + 1 - 2 = ds.length by omega]
  exact List.take_length
theorem cut_ok2 (d e : PyData) (ds : List PyData) : ¬ (HT.sIx (d :: e :: ds).length 0 (some 2) = 0 ∧ HT.sIx (d :: e :: ds).length (d :: e :: ds).length none = (d :: e :: ds).length) := by
  rw [show HT.sIx (d :: e :: ds).length 0 (some 2) = min 2 (d :: e :: ds).length from HT.sIx_nat _ 0 2, show min 2 (d :: e :: ds).length = 2 by rw [List.length_cons, List.length_cons]; omega]
  intro z
  cases z.1
/-! ### expressions that change nothing -/
section
variable {K : PySem.W.Frag}
def ED (K : PySem.W.Frag) (te : TE) (σ : L2.St) (F H : Hp) (d : PyData) : Prop := ∀ F1 H1, Bx F H F1 H1 → ∀ Q : VK, (∀ v F2 H2, Gr [] F1 H1 F2 H2 → R K F2 v d → Q v H2) → te σ H1 Q
def EA (K : PySem.W.Frag) (ta : TA) (σ : L2.St) (F H : Hp) (ds : List PyData) : Prop := ∀ F1 H1, Bx F H F1 H1 → ∀ Q : List V → Hp → Prop, (∀ vs F2 H2, Gr [] F1 H1 F2 H2 → RA K F2 vs ds → Q vs H2) → ta σ H1 Q
def EB (tt : TT) (σ : L2.St) (F H : Hp) (b : Bool) : Prop := ∀ F1 H1, Bx F H F1 H1 → ∀ Q : Bool → Hp → Prop, (∀ F2 H2, Gr [] F1 H1 F2 H2 → Q b H2) → tt σ H1 Q
def EO (to : TO) (σ : L2.St) (F H : Hp) (o : Option Int) : Prop := ∀ F1 H1, Bx F H F1 H1 → ∀ Q : Option Int → Hp → Prop, (∀ F2 H2, Gr [] F1 H1 F2 H2 → Q o H2) → to σ H1 Q
variable {te ta tb : TE} {σ : L2.St} {F H F1 H1 : Hp} {d e : PyData} {ds es : List PyData} {tr : TA}
theorem ED.go (h : ED K te σ F H d) (s : Same F H) {Q : VK} (q : ∀ v F2 H2, Gr [] F H F2 H2 → R K F2 v d → Q v H2) : te σ H Q := h F H (.refl s) Q q
theorem EB.go {tt : TT} {b : Bool} (h : EB tt σ F H b) (s : Same F H) {Q : Bool → Hp → Prop} (q : ∀ F2 H2, Gr [] F H F2 H2 → Q b H2) : tt σ H Q := h F H (.refl s) Q q
theorem EA.go (h : EA K tr σ F H ds) (s : Same F H) {Q : List V → Hp → Prop} (q : ∀ vs F2 H2, Gr [] F H F2 H2 → RA K F2 vs ds → Q vs H2) : tr σ H Q := h F H (.refl s) Q q
theorem ED.up (h : ED K te σ F H d) (g : Same F F1) : ED K te σ F1 H1 d := fun _ _ k => h _ _ ⟨g.trans k.ff, k.fh⟩
theorem EA.up (h : EA K tr σ F H ds) (g : Same F F1) : EA K tr σ F1 H1 ds := fun _ _ k => h _ _ ⟨g.trans k.ff, k.fh⟩
theorem EB.up {tt : TT} {b : Bool} (h : EB tt σ F H b) (g : Same F F1) : EB tt σ F1 H1 b := fun _ _ k => h _ _ ⟨g.trans k.ff, k.fh⟩
theorem ed_var {i : Nat} {v : V} (h : σ[i]? = some (some v)) (r : R K F v d) : ED K (tVar i) σ F H d := fun F1 H1 g Q q => ⟨v, h, q v F1 H1 (.refl g.fh) (r.at g.ff)⟩
theorem ed_c {v : V} (r : R K F v d) : ED K (tC v) σ F H d := fun F1 H1 g Q q => q v F1 H1 (.refl g.fh) (r.at g.ff)
theorem ed_str {x : Str} : ED K (tC (.str x)) σ F H (.str x) := ed_c (.str x)
theorem ed_int {i : Int} : ED K (tC (.int i)) σ F H (.int i) := ed_c (.int i)
theorem ed_non : ED K (tC .non) σ F H .none := ed_c .non
theorem ea_nil : EA K tNil σ F H [] := fun F1 H1 g Q q => q [] F1 H1 (.refl g.fh) .nil
theorem ea_cons (ha : ED K ta σ F H d) (hr : EA K tr σ F H ds) : EA K (tCons ta tr) σ F H (d :: ds) := fun F1 H1 g Q q =>
  ha F1 H1 g _ fun v F2 H2 g2 r => hr F2 H2 (g.tr g2) _ fun vs F3 H3 g3 rs => q (v :: vs) F3 H3 (g2.tr g3) (.cons (r.at g3.ff) rs)
theorem ed_tup (h : EA K tr σ F H ds) (hz : ds.length ≤ 100000) : ED K (tTup tr) σ F H (.tuple ds) := fun F1 H1 g Q q =>
  h F1 H1 g _ fun vs F2 H2 g2 r => ⟨by rw [r.len]; exact Nat.le_trans hz (by decide), fun p np => by
    have g3 : Gr [] F1 H1 (upd F2 p (.tup vs)) (upd H2 p (.tup vs)) := g2.new np
    refine q (.ref p) _ _ g3 (.tup (.inl (.inl upd_same)) (r.at fun b o e => ?_))
    rw [upd_ne (ne_some (same_none g2.fh np) e)]; exact e⟩
theorem ed_lst (h : EA K tr σ F H ds) (hz : ds.length ≤ 100000) : ED K (tLst tr) σ F H (.list ds) := fun F1 H1 g Q q =>
  h F1 H1 g _ fun vs F2 H2 g2 r => ⟨by rw [r.len]; exact Nat.le_trans hz (by decide), fun p np => by
    have g3 : Gr [] F1 H1 (upd F2 p (.lst vs)) (upd H2 p (.lst vs)) := g2.new np
    refine q (.ref p) _ _ g3 (.lst upd_same (r.at fun b o e => ?_))
    rw [upd_ne (ne_some (same_none g2.fh np) e)]; exact e⟩
/-- two things, then a rule on them -/
def RR (K : PySem.W.Frag) (r : R2) (F H : Hp) (d e f : PyData) : Prop := ∀ F1 H1, Bx F H F1 H1 → ∀ x y, R K F1 x d → R K F1 y e → ∀ Q : VK, (∀ v F2 H2, Gr [] F1 H1 F2 H2 → R K F2 v f → Q v H2) → r x y H1 Q
theorem ed_op {r : R2} {f : PyData} (ha : ED K ta σ F H d) (hb : ED K tb σ F H e) (hr : RR K r F H d e f) : ED K (tOp r ta tb) σ F H f := fun F1 H1 g Q q =>
  ha F1 H1 g _ fun v F2 H2 g2 r1 => hb F2 H2 (g.tr g2) _ fun u F3 H3 g3 r2 => hr F3 H3 ((g.tr g2).tr g3) v u (r1.at g3.ff) r2 Q fun z F4 H4 g4 r4 => q z F4 H4 ((g2.tr g3).tr g4) r4
theorem rr_ixT {i : Int} (h : atI ds i = some d) : RR K (rIxT K) F H (.tuple ds) (.int i) d := fun F1 H1 g x y r1 r2 Q q => by
  obtain ⟨a, xs, rfl, hs, ra⟩ := r1.asTup
  cases r2.asInt
  obtain ⟨v, e, rv⟩ := ra.ix h
  exact ⟨a, xs, i, v, rfl, rfl, sqT_same g.fh hs, e, q v F1 H1 (.refl g.fh) rv⟩
theorem rr_ixL {i : Int} (h : atI ds i = some d) : RR K (rIxL K) F H (.list ds) (.int i) d := fun F1 H1 g x y r1 r2 Q q => by
  obtain ⟨a, xs, rfl, hs, ra⟩ := r1.asLst
  cases r2.asInt
  obtain ⟨v, e, rv⟩ := ra.ix h
  exact ⟨a, xs, i, v, rfl, rfl, .inl (.inl (g.fh _ _ hs)), e, q v F1 H1 (.refl g.fh) rv⟩
theorem rr_eqD (h1 : SeqAt.shaped d = true) (h2 : SeqAt.shaped e = true) : RR K (rEqD K) F H d e (.bool (PyData.eqv d e)) := fun F1 H1 g x y r1 r2 Q q =>
  ⟨d, e, r1.dp g.fh d x, r2.dp g.fh e y, h1, h2, q _ F1 H1 (.refl g.fh) (.bl _)⟩
theorem rr_neD (h1 : SeqAt.shaped d = true) (h2 : SeqAt.shaped e = true) : RR K (rNeD K) F H d e (.bool (!PyData.eqv d e)) := fun F1 H1 g x y r1 r2 Q q =>
  ⟨d, e, r1.dp g.fh d x, r2.dp g.fh e y, h1, h2, q _ F1 H1 (.refl g.fh) (.bl _)⟩
theorem rr_eqS {x y : Str} : RR K rEq F H (.str x) (.str y) (.bool (decide (x = y))) := fun F1 H1 g u v r1 r2 Q q => by
  cases r1.asStr
  cases r2.asStr
  refine ⟨rfl, ?_⟩
  have z := q (.bl (decide (x = y))) F1 H1 (.refl g.fh) (.bl _)
  rw [show decide (V.str x = V.str y) = decide (x = y) by simp]
  exact z
theorem rr_neS {x y : Str} : RR K rNe F H (.str x) (.str y) (.bool (!decide (x = y))) := fun F1 H1 g u v r1 r2 Q q => by
  cases r1.asStr
  cases r2.asStr
  refine ⟨rfl, ?_⟩
  have z := q (.bl (!decide (x = y))) F1 H1 (.refl g.fh) (.bl _)
  rw [show decide (V.str x = V.str y) = decide (x = y) by simp]
  exact z
theorem rr_I0 {gg : Int → Int → Int} {i j : Int} : RR K (rI0 fun i j => .int (gg i j)) F H (.int i) (.int j) (.int (gg i j)) := fun F1 H1 g u v r1 r2 Q q => by
  cases r1.asInt
  cases r2.asInt
  exact ⟨i, j, rfl, rfl, q _ F1 H1 (.refl g.fh) (.int _)⟩
theorem rr_catT (hn : ds ≠ []) (hz : ds.length + es.length ≤ 100000) : RR K (rCatT K) F H (.tuple ds) (.tuple es) (.tuple (ds ++ es)) := fun F1 H1 g x y r1 r2 Q q => by
  obtain ⟨a, xs, rfl, hs, ra⟩ := r1.asTup
  obtain ⟨b, ys, rfl, hs2, rb⟩ := r2.asTup
  refine ⟨a, b, xs, ys, rfl, rfl, sqT_same g.fh hs, sqT_same g.fh hs2, fun z => ?_, ?_, fun z => ?_, fun z p np => ?_⟩
  · subst z
    cases ra
    exact hn rfl
  · rw [ra.len, rb.len]; exact Nat.le_trans hz (by decide)
  · subst z
    cases rb
    rw [List.append_nil] at q
    exact q _ F1 H1 (.refl g.fh) r1
  · have g3 : Gr [] F1 H1 (upd F1 p (.tup (xs ++ ys))) (upd H1 p (.tup (xs ++ ys))) := (Gr.refl g.fh).new np
    refine q (.ref p) _ _ g3 (.tup (.inl (.inl upd_same)) ((ra.app rb).at g3.ff))
theorem rr_cat (hz : ds.length + es.length ≤ 100000) : RR K rCat F H (.list ds) (.list es) (.list (ds ++ es)) := fun F1 H1 g x y r1 r2 Q q => by
  obtain ⟨a, xs, rfl, hs, ra⟩ := r1.asLst
  obtain ⟨b, ys, rfl, hs2, rb⟩ := r2.asLst
  refine ⟨a, b, xs, ys, rfl, rfl, g.fh _ _ hs, g.fh _ _ hs2, ?_, fun p np => ?_⟩
  · rw [ra.len, rb.len]; exact Nat.le_trans hz (by decide)
  · have g3 : Gr [] F1 H1 (upd F1 p (.lst (xs ++ ys))) (upd H1 p (.lst (xs ++ ys))) := (Gr.refl g.fh).new np
    refine q (.ref p) _ _ g3 (.lst upd_same ((ra.app rb).at g3.ff))
/-- flat data -/
def flatD : PyData → Bool
  | .none => true
  | .bool _ => true
  | .int _ => true
  | .str _ => true
  | _ => false
theorem R.flat {v : V} (r : R K F v d) (h : flatD d = true) : flatV v = true := by cases r <;> first | rfl | cases h
theorem RA.flat : ∀ {vs : List V} {ds : List PyData}, RA K F vs ds → ds.all flatD = true → vs.all flatV = true
  | _, _, .nil, _ => rfl
  | _, _, .cons h t, e => by
    rw [List.all_cons, Bool.and_eq_true] at e ⊢
    exact ⟨h.flat e.1, RA.flat t e.2⟩
theorem eqv_flat {u v : V} {d e : PyData} (h1 : R K F u d) (h2 : R K F v e) (f1 : flatD d = true) (f2 : flatD e = true) : eqV u v = PyData.eqv d e := by
  cases h1 <;> cases h2 <;> first | rfl | cases f1 | cases f2 | simp [eqV, PyData.eqv]
theorem inV_flat {x : V} (r : R K F x d) (f : flatD d = true) : ∀ {vs : List V} {ds : List PyData}, RA K F vs ds → ds.all flatD = true → inV x vs = ds.any fun z => PyData.eqv z d
  | _, _, .nil, _ => rfl
  | _, _, .cons h t, e => by
    rw [List.all_cons, Bool.and_eq_true] at e
    have ih := inV_flat r f t e.2
    unfold inV at ih ⊢
    rw [List.any_cons, List.any_cons, ih, eqv_flat h r e.1 f]
theorem rr_inT (f : flatD d = true) (fs : ds.all flatD = true) : RR K (rIn K false) F H d (.tuple ds) (.bool (ds.any fun z => PyData.eqv z d)) := fun F1 H1 g x y r1 r2 Q q => by
  obtain ⟨a, xs, rfl, hs, ra⟩ := r2.asTup
  refine ⟨a, xs, rfl, .inr (sqT_same g.fh hs), r1.flat f, ra.flat fs, ?_⟩
  show Q (.bl (inV x xs)) H1
  rw [inV_flat r1 f ra fs]
  exact q _ F1 H1 (.refl g.fh) (.bl _)
theorem rr_inL (f : flatD d = true) (fs : ds.all flatD = true) : RR K (rIn K false) F H d (.list ds) (.bool (ds.any fun z => PyData.eqv z d)) := fun F1 H1 g x y r1 r2 Q q => by
  obtain ⟨a, xs, rfl, hs, ra⟩ := r2.asLst
  refine ⟨a, xs, rfl, .inl (.inl (.inl (g.fh _ _ hs))), r1.flat f, ra.flat fs, ?_⟩
  show Q (.bl (inV x xs)) H1
  rw [inV_flat r1 f ra fs]
  exact q _ F1 H1 (.refl g.fh) (.bl _)
theorem rr_notInL (f : flatD d = true) (fs : ds.all flatD = true) : RR K (rIn K true) F H d (.list ds) (.bool (!ds.any fun z => PyData.eqv z d)) := fun F1 H1 g x y r1 r2 Q q => by
  obtain ⟨a, xs, rfl, hs, ra⟩ := r2.asLst
  refine ⟨a, xs, rfl, .inl (.inl (.inl (g.fh _ _ hs))), r1.flat f, ra.flat fs, ?_⟩
  show Q (.bl (!inV x xs)) H1
  rw [inV_flat r1 f ra fs]
  exact q _ F1 H1 (.refl g.fh) (.bl _)
/-! ### slices, calls of built-ins -/
theorem eo_none : EO tNoPart σ F H none := fun F1 H1 g Q q => q F1 H1 (.refl g.fh)
theorem eo_some {i : Int} (h : ED K te σ F H (.int i)) : EO (tPart te) σ F H (some i) := fun F1 H1 g Q q => h F1 H1 g _ fun v F2 H2 g2 r => ⟨i, r.asInt, q F2 H2 g2⟩
theorem ed_slT {tl th : TO} {lo hi : Option Int} (h : ED K te σ F H (.tuple ds)) (h1 : EO tl σ F H lo) (h2 : EO th σ F H hi) (hw : ¬ (HT.sIx ds.length 0 lo = 0 ∧ HT.sIx ds.length ds.length hi = ds.length)) : ED K (tSl (rSlT K) te tl th) σ F H (.tuple (cutD ds lo hi)) := fun F1 H1 g Q q =>
  h F1 H1 g _ fun v F2 H2 g2 r => h1 F2 H2 (g.tr g2) _ fun F3 H3 g3 => h2 F3 H3 ((g.tr g2).tr g3) _ fun F4 H4 g4 => by
    obtain ⟨a, xs, rfl, hs, ra⟩ := (r.at (g3.tr g4).ff).asTup
    refine ⟨a, xs, rfl, sqT_same g4.fh hs, by rw [ra.len]; exact hw, fun p np => ?_⟩
    have g5 : Gr [] F1 H1 (upd F4 p (.tup (cutV xs lo hi))) (upd H4 p (.tup (cutV xs lo hi))) := ((g2.tr g3).tr g4).new np
    refine q (.ref p) _ _ g5 (.tup (.inl (.inl upd_same)) ((ra.cut lo hi).at ?_))
    exact ((Gr.refl g4.fh).new (M := []) np).ff
/-- a built-in's call on data -/
def RCD (K : PySem.W.Frag) (r : List V → Hp → VK → Prop) (F H : Hp) (ds : List PyData) (f : PyData) : Prop := ∀ F1 H1, Bx F H F1 H1 → ∀ vs, RA K F1 vs ds → ∀ Q : VK, (∀ v F2 H2, Gr [] F1 H1 F2 H2 → R K F2 v f → Q v H2) → r vs H1 Q
theorem ed_cb {r : List V → Hp → VK → Prop} {f : PyData} (ha : EA K tr σ F H ds) (hr : RCD K r F H ds f) : ED K (tCB r tr) σ F H f := fun F1 H1 g Q q =>
  ha F1 H1 g _ fun vs F2 H2 g2 r1 => hr F2 H2 (g.tr g2) vs r1 Q fun z F3 H3 g3 r3 => q z F3 H3 (g2.tr g3) r3
theorem RA.one {vs : List V} (r : RA K F vs [d]) : ∃ v, vs = [v] ∧ R K F v d := by
  cases r with
  | cons h t => cases t; exact ⟨_, rfl, h⟩
theorem RA.two {vs : List V} (r : RA K F vs [d, e]) : ∃ v u, vs = [v, u] ∧ R K F v d ∧ R K F u e := by
  cases r with
  | cons h t =>
    obtain ⟨u, rfl, r⟩ := t.one
    exact ⟨_, u, rfl, h, r⟩
theorem rc_tupleL : RCD K (rTupOf K) F H [.list ds] (.tuple ds) := fun F1 H1 g vs r Q q => by
  obtain ⟨v, rfl, r1⟩ := r.one
  obtain ⟨a, xs, rfl, hs, ra⟩ := r1.asLst
  refine ⟨a, xs, rfl, .inl ⟨.inl (.inl (g.fh _ _ hs)), fun p np => ?_⟩⟩
  have g3 : Gr [] F1 H1 (upd F1 p (.tup xs)) (upd H1 p (.tup xs)) := (Gr.refl g.fh).new np
  exact q (.ref p) _ _ g3 (.tup (.inl (.inl upd_same)) (ra.at g3.ff))
theorem rc_lenL : RCD K (rLenOf K) F H [.list ds] (.int ds.length) := fun F1 H1 g vs r Q q => by
  obtain ⟨v, rfl, r1⟩ := r.one
  obtain ⟨a, xs, rfl, hs, ra⟩ := r1.asLst
  refine ⟨a, xs, rfl, .inl (.inl (.inl (g.fh _ _ hs))), ?_⟩
  rw [ra.len]
  exact q _ F1 H1 (.refl g.fh) (.int _)
def tyD : PyData → String
  | .none => "NoneType"
  | .bool _ => "bool"
  | .int _ => "int"
  | .str _ => "str"
  | .list _ => "list"
  | .tuple _ => "tuple"
  | .dict _ => "dict"
theorem R.ty {v : V} (r : R K F v d) (s : Same F H) : TyX K H v (.type (tyD d)) := by
  cases r with
  | non => exact .base .non
  | bl b => exact .base (.bl b)
  | int i => exact .base (.int i)
  | str x => exact .base (.str x)
  | lst h _ => exact .base (.lst (s _ _ h))
  | tup h _ =>
    rcases h with (h | ⟨o, h⟩) | ⟨o, its, n, h, hc, _⟩
    · exact .base (.tup (s _ _ h))
    · exact .fTuple (s _ _ h)
    · exact .kTuple h hc
/-! ### tests -/
def isNone : PyData → Bool
  | .none => true
  | _ => false
theorem rr_isN : RR K rIsN0 F H d .none (.bool (isNone d)) := fun F1 H1 g x y r1 r2 Q q => by
  have e2 : y = .non := by cases r2; rfl
  refine ⟨e2, ?_⟩
  have e : decide (x = V.non) = isNone d := by cases r1 <;> rfl
  rw [e]
  exact q _ F1 H1 (.refl g.fh) (.bl _)
theorem eb_test {b : Bool} (h : ED K te σ F H (.bool b)) : EB (tTest te) σ F H b := fun F1 H1 g Q q => h F1 H1 g _ fun v F2 H2 g2 r => ⟨b, r.asBl, q F2 H2 g2⟩
theorem eb_B {b : Bool} (h : ED K te σ F H (.bool b)) : EB (tB te) σ F H b := fun F1 H1 g Q q => h F1 H1 g _ fun v F2 H2 g2 r => ⟨b, r.asBl, q F2 H2 g2⟩
theorem eb_not {tt : TT} {b : Bool} (h : EB tt σ F H b) : EB (tNot tt) σ F H (!b) := fun F1 H1 g Q q => h F1 H1 g _ fun F2 H2 g2 => q F2 H2 g2
theorem eb_and {t u : TT} {a b : Bool} (h1 : EB t σ F H a) (h2 : a = true → EB u σ F H b) : EB (tAnd t u) σ F H (a && b) := fun F1 H1 g Q q => h1 F1 H1 g _ fun F2 H2 g2 => by
  cases a
  · exact iteF (q F2 H2 g2)
  · exact iteT (h2 rfl F2 H2 (g.tr g2) Q fun F3 H3 g3 => q F3 H3 (g2.tr g3))
theorem eb_or {t u : TT} {a b : Bool} (h1 : EB t σ F H a) (h2 : a = false → EB u σ F H b) : EB (tOr t u) σ F H (a || b) := fun F1 H1 g Q q => h1 F1 H1 g _ fun F2 H2 g2 => by
  cases a
  · exact iteF (h2 rfl F2 H2 (g.tr g2) Q fun F3 H3 g3 => q F3 H3 (g2.tr g3))
  · exact iteT (q F2 H2 g2)
theorem eb_isi {i : Nat} {v : V} {c : String} {b : Bool} (h : σ[i]? = some (some v)) (r : R K F v d) (hb : kitB (tyD d) c = some b) : EB (tB (tCB (rIsi K) (tCons (tVar i) (tCons (tC (.ty c)) tNil)))) σ F H b := fun F1 H1 g Q q =>
  ⟨v, h, v, .ty c, .type (tyD d), .type c, b, rfl, .ty c, (r.at g.ff).ty g.fh, kit_ty hb, b, rfl, q F1 H1 (.refl g.fh)⟩
/-! ### statements -/
variable {D : Ends} {tz tu tw : TS}
theorem q_set {i : Nat} (h : ED K te σ F H d) (s : Same F H) (k : ∀ v F1 H1, Gr [] F H F1 H1 → R K F1 v d → tz D (σ.set i (some v)) H1) : tSeq (tAsg te (gName i)) tz D σ H := h.go s fun v F1 H1 g r => k v F1 H1 g r
theorem q_when {tt : TT} {b : Bool} (h : EB tt σ F H b) (s : Same F H) (h1 : b = true → ∀ F1 H1, Gr [] F H F1 H1 → tu { D with nx := tz D } σ H1) (h2 : b = false → ∀ F1 H1, Gr [] F H F1 H1 → tz D σ H1) : tSeq (tIfS tt tu tNext) tz D σ H := h.go s fun F1 H1 g => by
  cases b
  · exact iteF (h2 rfl F1 H1 g)
  · exact iteT (h1 rfl F1 H1 g)
theorem q_ret (h : ED K te σ F H d) (s : Same F H) (k : ∀ v F1 H1, Gr [] F H F1 H1 → R K F1 v d → D.rt v H1) : tRet te D σ H := h.go s k
theorem q_ifNone {i j : Nat} {v : V} (h : σ[i]? = some (some v)) (e : v = .non) (k : te σ H fun x H1 => tz D (σ.set j (some x)) H1) : tSeq (tIfS (tTest (tOp rIsN0 (tVar i) (tC .non))) (tAsg te (gName j)) tNext) tz D σ H :=
  ⟨v, h, rfl, _, rfl, by subst e; exact iteT k⟩
theorem q_ifSome {v : V} {i : Nat} (h : σ[i]? = some (some v)) (e : v ≠ .non) (k : tz D σ H) : tSeq (tIfS (tTest (tOp rIsN0 (tVar i) (tC .non))) tu tNext) tz D σ H :=
  ⟨v, h, rfl, _, rfl, by rw [decide_eq_false e]; exact iteF k⟩
/-! ### calls of defs that give data for data -/
/-- a def that, given ds, gives d, as A tells -/
def SpD (K : PySem.W.Frag) (A : List PyData → PyData → Prop) : Sp := fun vs H Q _ => ∃ F ds d, Same F H ∧ RA K F vs ds ∧ A ds d ∧ ∀ v F1 H1, Gr [] F H F1 H1 → R K F1 v d → Q v H1
theorem ed_call {A : List PyData → PyData → Prop} {E : XK} (h : EA K tr σ F H ds) (hc : A ds d) : ED K (tCall (SpD K A) [] E tr) σ F H d := fun F1 H1 g Q q =>
  h F1 H1 g _ fun vs F2 H2 g2 r => by
    rw [List.append_nil]
    exact ⟨F2, ds, d, g2.fh, r, hc, fun v F3 H3 g3 r3 => q v F3 H3 (g2.tr g3) r3⟩
/-! ### [e for x in t], t a tuple or a list of data, e of data -/
/-- the list made so far -/
def Mk (K : PySem.W.Frag) (F H : Hp) (Dl : Addr) (es : List PyData) (H1 : Hp) : Prop := ∃ F1 acc, Gr [] F H F1 H1 ∧ H Dl = none ∧ H1 Dl = some (.lst acc) ∧ F1 Dl = none ∧ RA K F1 acc es
theorem Mk.start {Dl : Addr} (s : Same F H) (h : H Dl = none) : Mk K F H Dl [] (upd H Dl (.lst [])) := ⟨F, [], (Gr.refl s).newM h, h, upd_same, same_none s h, .nil⟩
theorem Mk.turn {Dl : Addr} {es : List PyData} (m : Mk K F H Dl es H1) (hz : es.length < 100000) (he : ∀ F1, Gr [] F H F1 H1 → ED K te σ F1 H1 d) : te σ H1 fun y H4 => ∃ acc, H4 Dl = some (.lst acc) ∧ acc.length < sizeLine ∧ Mk K F H Dl (es ++ [d]) (upd H4 Dl (.lst (acc ++ [y]))) := by
  obtain ⟨F1, acc, g, h0, h1, h2, ra⟩ := m
  refine (he F1 g).go g.fh fun v F2 H2 g2 r => ?_
  have hF : F2 Dl = none := g2.still h2 h1
  refine ⟨acc, g2.hh _ _ (fun z => nomatch z) h1, by rw [ra.len]; exact Nat.lt_of_lt_of_le hz (by decide), F2, acc ++ [v], (g.tr g2).put hF (.inr h0), h0, upd_same, hF, (ra.at g2.ff).app (.cons r .nil)⟩
theorem Mk.done {Dl : Addr} {es : List PyData} (m : Mk K F H Dl es H1) {Q : VK} (q : ∀ v F2 H2, Gr [] F H F2 H2 → R K F2 v (.list es) → Q v H2) : Q (.ref Dl) H1 := by
  obtain ⟨F1, acc, g, h0, h1, h2, ra⟩ := m
  have g2 := g.freeze h1 h2 h0
  refine q (.ref Dl) _ H1 g2 (.lst upd_same (ra.at fun b o e => ?_))
  rw [upd_ne (ne_some h2 e)]; exact e
theorem Mk.gr {Dl : Addr} {es : List PyData} (m : Mk K F H Dl es H1) : ∃ F1, Gr [] F H F1 H1 := by
  obtain ⟨F1, _, g, _⟩ := m
  exact ⟨F1, g⟩
theorem take_map {α β : Type} {l : List α} {i : Nat} {x : α} (f : α → β) (h : l[i]? = some x) : (l.take (i + 1)).map f = (l.take i).map f ++ [f x] := by
  rw [List.take_succ, h, List.map_append]
  rfl
theorem RA.back : ∀ {vs : List V} {ds : List PyData} {i : Nat} {v : V}, RA K F vs ds → vs[i]? = some v → ∃ d, ds[i]? = some d ∧ R K F v d
  | _, _, _, _, .nil, e => by simp at e
  | _, _, 0, _, .cons h _, e => by
    simp only [List.getElem?_cons_zero, Option.some.injEq] at e
    subst e
    exact ⟨_, rfl, h⟩
  | _, _, i + 1, v, .cons _ t, e => by
    obtain ⟨d, h1, h2⟩ := RA.back (i := i) t (by simpa using e)
    exact ⟨d, by simpa using h1, h2⟩
theorem get_map {α β : Type} {f : α → β} {l : List α} {i : Nat} {y : β} (h : (l.map f)[i]? = some y) : ∃ x, l[i]? = some x ∧ y = f x := by
  rw [List.getElem?_map] at h
  cases e : l[i]? with
  | none => rw [e] at h; cases h
  | some x => rw [e] at h; exact ⟨x, rfl, (Option.some.inj h).symm⟩
theorem ed_lcT {α : Type} {xs : List α} {e f : α → PyData} {j : Nat} {vs : List Nat} (h : ED K te σ F H (.tuple (xs.map e))) (hz : xs.length ≤ 50000) (hw : ∀ x, wipe ((wipe σ vs).set j (some x)) vs = wipe σ vs)
    (he : ∀ a x F1 H1, a ∈ xs → Bx F H F1 H1 → R K F1 x (e a) → ED K ta ((wipe σ vs).set j (some x)) F1 H1 (f a)) : ED K (tLc (iTup K te) (gName j) tYes ta vs) σ F H (.list (xs.map f)) := fun F1 H1 g Q q => by
  refine h F1 H1 g _ fun v F2 H2 g2 r => ?_
  obtain ⟨a, ys, rfl, hs, ra⟩ := r.asTup
  refine ⟨a, rfl, ⟨ys, sqT_same g2.fh hs⟩, fun Dl nD => ?_⟩
  have hl : ys.length = xs.length := by rw [ra.len, List.length_map]
  refine lc_tup (xs := ys) (fun i H3 => Mk K F2 H2 Dl ((xs.take i).map f) H3) (Mk.start g2.fh nD) (fun i H3 _ m => ?_) (fun i x H3 hx m => ⟨hw x, ?_⟩) fun H3 m => ?_
  · obtain ⟨F3, g3⟩ := m.gr
    exact sqT_same g3.fh (sqT_same g3.ff hs)
  · obtain ⟨d, hd, rd⟩ := ra.back hx
    obtain ⟨z, hz2, rfl⟩ := get_map hd
    refine iteT (B := Mk K F2 H2 Dl ((xs.take (i + 1)).map f) H3) ?_
    rw [take_map f hz2]
    refine m.turn (by rw [List.length_map, List.length_take]; omega) fun F3 g3 => he z x F3 H3 (List.mem_of_getElem? hz2) ((g.tr g2).tr g3) (rd.at g3.ff)
  · rw [hl, List.take_length] at m
    exact m.done fun v F3 H4 g3 r3 => q v F3 H4 (g2.tr g3) r3
theorem ed_lcL {α : Type} {xs : List α} {e f : α → PyData} {j : Nat} {vs : List Nat} (h : ED K te σ F H (.list (xs.map e))) (hz : xs.length ≤ 50000) (hw : ∀ x, wipe ((wipe σ vs).set j (some x)) vs = wipe σ vs)
    (he : ∀ a x F1 H1, a ∈ xs → Bx F H F1 H1 → R K F1 x (e a) → ED K ta ((wipe σ vs).set j (some x)) F1 H1 (f a)) : ED K (tLc (iList K te) (gName j) tYes ta vs) σ F H (.list (xs.map f)) := fun F1 H1 g Q q => by
  refine h F1 H1 g _ fun v F2 H2 g2 r => ?_
  obtain ⟨a, ys, rfl, hs, ra⟩ := r.asLst
  refine ⟨a, rfl, ⟨ys, .inl (.inl (g2.fh _ _ hs))⟩, fun Dl nD => ?_⟩
  have hl : ys.length = xs.length := by rw [ra.len, List.length_map]
  refine lc_list (xs := ys) (fun i H3 => Mk K F2 H2 Dl ((xs.take i).map f) H3) (Mk.start g2.fh nD) (fun i H3 _ m => ?_) (fun i x H3 hx m => ⟨hw x, ?_⟩) fun H3 m => ?_
  · obtain ⟨F3, g3⟩ := m.gr
    exact .inl (.inl (g3.fh _ _ (g3.ff _ _ hs)))
  · obtain ⟨d, hd, rd⟩ := ra.back hx
    obtain ⟨z, hz2, rfl⟩ := get_map hd
    refine iteT (B := Mk K F2 H2 Dl ((xs.take (i + 1)).map f) H3) ?_
    rw [take_map f hz2]
    refine m.turn (by rw [List.length_map, List.length_take]; omega) fun F3 g3 => he z x F3 H3 (List.mem_of_getElem? hz2) ((g.tr g2).tr g3) (rd.at g3.ff)
  · rw [hl, List.take_length] at m
    exact m.done fun v F3 H4 g3 r3 => q v F3 H4 (g2.tr g3) r3
/-! ### loops -/
theorem q_forT {j : Nat} {tb : TS} (h : ED K te σ F H (.tuple ds)) (s : Same F H)
    (k : ∀ F1 H1, Gr [] F H F1 H1 → ∃ Pv : Nat → L2.St → Hp → Prop, Pv 0 σ H1 ∧ (∀ i σ2 H2, Pv i σ2 H2 → ∃ F2, Same F2 H2 ∧ Same F1 F2) ∧
      (∀ i x d σ2 H2, ds[i]? = some d → R K F1 x d → Pv i σ2 H2 → tb { D with nx := Pv (i + 1), ct := Pv (i + 1), bk := tz D } (σ2.set j (some x)) H2) ∧ ∀ σ2 H2, Pv ds.length σ2 H2 → tz D σ2 H2) : tSeq (tFor (iTup K te) (gName j) tb) tz D σ H := by
  refine h.go s fun v F1 H1 g r => ?_
  obtain ⟨a, xs, rfl, hs, ra⟩ := r.asTup
  obtain ⟨Pv, p0, pk, ps, pd⟩ := k F1 H1 g
  refine ⟨a, rfl, ⟨xs, sqT_same g.fh hs⟩, for_tup (xs := xs) (D := { D with nx := tz D }) Pv p0 (fun i σ2 H2 _ p => ?_) (fun i x σ2 H2 hx p => ?_) fun σ2 H2 p => ?_⟩
  · obtain ⟨F2, s1, s2⟩ := pk i σ2 H2 p
    exact sqT_same s1 (sqT_same s2 hs)
  · obtain ⟨d, hd, rd⟩ := ra.back hx
    exact ps i x d σ2 H2 hd rd p
  · rw [ra.len] at p
    exact pd σ2 H2 p
theorem q_forL {j : Nat} {tb : TS} (h : ED K te σ F H (.list ds)) (s : Same F H)
    (k : ∀ F1 H1, Gr [] F H F1 H1 → ∃ Pv : Nat → L2.St → Hp → Prop, Pv 0 σ H1 ∧ (∀ i σ2 H2, Pv i σ2 H2 → ∃ F2, Same F2 H2 ∧ Same F1 F2) ∧
      (∀ i x d σ2 H2, ds[i]? = some d → R K F1 x d → Pv i σ2 H2 → tb { D with nx := Pv (i + 1), ct := Pv (i + 1), bk := tz D } (σ2.set j (some x)) H2) ∧ ∀ σ2 H2, Pv ds.length σ2 H2 → tz D σ2 H2) : tSeq (tFor (iList K te) (gName j) tb) tz D σ H := by
  refine h.go s fun v F1 H1 g r => ?_
  obtain ⟨a, xs, rfl, hs, ra⟩ := r.asLst
  obtain ⟨Pv, p0, pk, ps, pd⟩ := k F1 H1 g
  refine ⟨a, rfl, ⟨xs, .inl (.inl (g.fh _ _ hs))⟩, for_list (xs := xs) (D := { D with nx := tz D }) Pv p0 (fun i σ2 H2 _ p => ?_) (fun i x σ2 H2 hx p => ?_) fun σ2 H2 p => ?_⟩
  · obtain ⟨F2, s1, s2⟩ := pk i σ2 H2 p
    exact .inl (.inl (s1 _ _ (s2 _ _ hs)))
  · obtain ⟨d, hd, rd⟩ := ra.back hx
    exact ps i x d σ2 H2 hd rd p
  · rw [ra.len] at p
    exact pd σ2 H2 p
/-- a list of one's own at p, of these data -/
structure Own (K : PySem.W.Frag) (F0 H0 F H : Hp) (p : Addr) (es : List PyData) : Prop where
  gr : Gr [] F0 H0 F H
  new : H0 p = none
  ex : ∃ acc, H p = some (.lst acc) ∧ F p = none ∧ RA K F acc es
theorem Own.more {F0 H0 : Hp} {p : Addr} {es : List PyData} (o : Own K F0 H0 F H p es) (g : Gr [] F H F1 H1) : Own K F0 H0 F1 H1 p es := by
  obtain ⟨acc, h1, h2, ra⟩ := o.ex
  exact ⟨o.gr.tr g, o.new, acc, g.hh _ _ (fun z => nomatch z) h1, g.still h2 h1, ra.at g.ff⟩
theorem Own.still {F0 H0 : Hp} {p : Addr} {es : List PyData} (o : Own K F0 H0 F H p es) : ∃ F2, Gr [] F0 H0 F2 H ∧ Same F F2 ∧ R K F2 (.ref p) (.list es) := by
  obtain ⟨acc, h1, h2, ra⟩ := o.ex
  have s : Same F (upd F p (.lst acc)) := fun b u e => by rw [upd_ne (ne_some h2 e)]; exact e
  exact ⟨_, o.gr.freeze h1 h2 o.new, s, .lst upd_same (ra.at s)⟩
theorem Own.start {F0 H0 : Hp} {p : Addr} (g : Gr [] F0 H0 F H) (h : H p = none) : Own K F0 H0 F (upd H p (.lst [])) p [] := ⟨g.newM h, g.dm p h, [], upd_same, same_none g.fh h, .nil⟩
/-- p.extend(e) -/
theorem own_extend {F0 H0 : Hp} {p : Addr} {i : Nat} (o : Own K F0 H0 F H p es) (hi : σ[i]? = some (some (.ref p))) (h : ED K te σ F H (.list ds)) (hz : es.length + ds.length ≤ 100000) {D : Ends} (k : ∀ F1 H1, Own K F0 H0 F1 H1 p (es ++ ds) → Same F F1 → D.nx σ H1) :
    tDrop (tBM K "list" rExtend (tVar i) (tCons te tNil)) D σ H := by
  obtain ⟨acc, h1, h2, ra⟩ := o.ex
  refine ⟨.ref p, hi, .inl ⟨rfl, _, .inl (.inl h1)⟩, ?_⟩
  refine h.go o.gr.fh fun v F1 H1 g r => ?_
  obtain ⟨b, ys, rfl, hs, rb⟩ := r.asLst
  obtain ⟨acc1, k1, k2, ra1⟩ := (o.more g).ex
  refine ⟨p, b, acc1, ys, rfl, rfl, k1, g.fh _ _ hs, ?_, ?_⟩
  · rw [ra1.len, rb.len]; exact Nat.le_trans hz (by decide)
  · exact k F1 _ ⟨(o.gr.tr g).put k2 (.inr o.new), o.new, acc1 ++ ys, upd_same, k2, ra1.app rb⟩ g.ff
/-- p.append(e) -/
theorem own_append {F0 H0 : Hp} {p : Addr} {i : Nat} (o : Own K F0 H0 F H p es) (hi : σ[i]? = some (some (.ref p))) (h : ED K te σ F H d) (hz : es.length < 100000) {D : Ends} (k : ∀ F1 H1, Own K F0 H0 F1 H1 p (es ++ [d]) → Same F F1 → D.nx σ H1) :
    tDrop (tBM K "list" rAppend (tVar i) (tCons te tNil)) D σ H := by
  obtain ⟨acc, h1, h2, ra⟩ := o.ex
  refine ⟨.ref p, hi, .inl ⟨rfl, _, .inl (.inl h1)⟩, ?_⟩
  refine h.go o.gr.fh fun v F1 H1 g r => ?_
  obtain ⟨acc1, k1, k2, ra1⟩ := (o.more g).ex
  refine ⟨p, acc1, v, rfl, rfl, k1, ?_, ?_⟩
  · rw [ra1.len]; exact Nat.lt_of_lt_of_le hz (by decide)
  · exact k F1 _ ⟨(o.gr.tr g).put k2 (.inr o.new), o.new, acc1 ++ [v], upd_same, k2, ra1.app (.cons r .nil)⟩ g.ff
/-- [..], as one's own -/
theorem own_display {F0 H0 : Hp} (g : Gr [] F0 H0 F H) (h : EA K tr σ F H ds) (hz : ds.length ≤ 100000) {Q : VK} (k : ∀ p F1 H1, Own K F0 H0 F1 H1 p ds → Same F F1 → Q (.ref p) H1) : tLst tr σ H Q := by
  refine h.go g.fh fun vs F1 H1 g1 r => ⟨by rw [r.len]; exact Nat.le_trans hz (by decide), fun p np => k p F1 _ ⟨(g.tr g1).newM np, (g.tr g1).dm p np, vs, upd_same, same_none g1.fh np, r⟩ g1.ff⟩
theorem q_own {F0 H0 : Hp} {i : Nat} (g : Gr [] F0 H0 F H) (h : EA K tr σ F H ds) (hz : ds.length ≤ 100000) (k : ∀ p F1 H1, Own K F0 H0 F1 H1 p ds → Same F F1 → tz D (σ.set i (some (.ref p))) H1) : tSeq (tAsg (tLst tr) (gName i)) tz D σ H := own_display (Q := fun v H1 => tz D (σ.set i (some v)) H1) g h hz k
theorem q_retOwn {F0 H0 : Hp} (g : Gr [] F0 H0 F H) (h : EA K tr σ F H ds) (hz : ds.length ≤ 100000) (k : ∀ p F1 H1, Own K F0 H0 F1 H1 p ds → Same F F1 → D.rt (.ref p) H1) : tRet (tLst tr) D σ H := own_display (Q := D.rt) g h hz k
/-- a def that gives a new list of data -/
def SpL (K : PySem.W.Frag) (A : List PyData → List PyData → Prop) : Sp := fun vs H Q _ => ∃ F ds es, Same F H ∧ RA K F vs ds ∧ A ds es ∧ ∀ p F1 H1, Own K F H F1 H1 p es → Q (.ref p) H1
theorem ed_callL {A : List PyData → List PyData → Prop} {E : XK} (h : EA K tr σ F H ds) (hc : A ds es) : ED K (tCall (SpL K A) [] E tr) σ F H (.list es) := fun F1 H1 g Q q =>
  h F1 H1 g _ fun vs F2 H2 g2 r => by
    rw [List.append_nil]
    refine ⟨F2, ds, es, g2.fh, r, hc, fun p F3 H3 o => ?_⟩
    obtain ⟨F4, g4, _, r4⟩ := o.still
    exact q (.ref p) F4 H3 (g2.tr g4) r4
theorem Own.dp {F0 H0 : Hp} {p : Addr} (o : Own K F0 H0 F H p es) : Dp K H (.ref p) (.list es) := by
  obtain ⟨acc, h1, h2, ra⟩ := o.ex
  exact .lst (.inl (.inl h1)) (RA.dp o.gr.fh es acc ra)
/-- x = f(..), f giving a new list -/
theorem q_setCallL {A : List PyData → List PyData → Prop} {E : XK} {F0 H0 : Hp} {i : Nat} (g0 : Gr [] F0 H0 F H) (h : EA K tr σ F H ds) (hc : A ds es) (k : ∀ p F1 H1, Own K F0 H0 F1 H1 p es → Gr [] F H F1 H1 → tz D (σ.set i (some (.ref p))) H1) : tSeq (tAsg (tCall (SpL K A) [] E tr) (gName i)) tz D σ H :=
  h.go g0.fh fun vs F2 H2 g2 r => by
    rw [List.append_nil]
    refine ⟨F2, ds, es, g2.fh, r, hc, fun p F3 H3 o => ?_⟩
    exact k p F3 H3 ⟨(g0.tr g2).tr o.gr, (g0.tr g2).dm p o.new, o.ex⟩ (g2.tr o.gr)
/-! ### sorted(set(xs)) of tuples of texts -/
theorem RA.strs : ∀ {vs : List V} {x : List Str}, RA K F vs (x.map .str) → vs = x.map V.str
  | _, [], .nil => rfl
  | _, a :: x, .cons h t => by rw [h.asStr, RA.strs t]; rfl
theorem RA.keys : ∀ {vs : List V} {ks : List (List Str)}, RA K F vs (ks.map SetK.encT) → ∃ kz : List (Addr × List Str), vs = kz.map (fun q => V.ref q.1) ∧ kz.map (·.2) = ks ∧ ∀ q ∈ kz, SqT K F q.1 (q.2.map V.str)
  | _, [], .nil => ⟨[], rfl, rfl, fun _ z => nomatch z⟩
  | _, x :: ks, .cons h t => by
    obtain ⟨a, xs, rfl, hs, ra⟩ := h.asTup
    obtain ⟨kz, e1, e2, e3⟩ := RA.keys t
    rw [ra.strs] at hs
    refine ⟨(a, x) :: kz, by rw [e1]; rfl, by rw [List.map_cons, e2], fun q hq => ?_⟩
    rcases List.mem_cons.mp hq with rfl | hq
    · exact hs
    · exact e3 q hq
theorem RA.ofKeys : ∀ (kz : List (Addr × List Str)), (∀ q ∈ kz, SqT K F q.1 (q.2.map V.str)) → RA K F (kz.map fun q => V.ref q.1) ((kz.map (·.2)).map SetK.encT)
  | [], _ => .nil
  | q :: kz, h => by
    refine .cons (.tup (h q List.mem_cons_self) ?_) (RA.ofKeys kz fun r hr => h r (List.mem_cons_of_mem _ hr))
    have key : ∀ x : List Str, RA K F (x.map V.str) (x.map .str) := by
      intro x
      induction x with
      | nil => exact .nil
      | cons a x ih => exact .cons (.str a) ih
    exact key q.2
theorem sset_wp {P : Program} {w : World} {F0 H0 : Hp} {i : Nat} {l : Addr} {acc : List V} {ks : List (List Str)} (g : Gr [] F0 H0 F H) (hi : σ[i]? = some (some (.ref l))) (hl : SqL K H l acc) (ra : RA K F acc (ks.map SetK.encT)) (few : SetK.FewS ks) (ne : ∀ x ∈ ks, x ≠ []) {Q : VK}
    (k : ∀ p F1 H1, Own K F0 H0 F1 H1 p ((SetK.sset ks).map SetK.encT) → Same F F1 → Gr [] F H F1 H1 → Q (.ref p) H1) : tCB (SetK.rSortedS K P w) (tCons (tCB (SetK.rSetS K P w) (tCons (tVar i) tNil)) tNil) σ H Q := by
  obtain ⟨kz, rfl, rfl, hk⟩ := ra.keys
  refine ⟨.ref l, hi, l, kz, rfl, hl, fun q hq => sqT_same g.fh (hk q hq), few, fun a L na sub all => ?_⟩
  have g1 : Gr [] F H F (upd H a (SetK.SetH P w a L)) := (Gr.refl g.fh).newM na
  refine ⟨a, L, rfl, upd_same, fun q hq => sqT_same g1.fh (hk q (sub q hq)), fun q hq => ne q.2 (List.mem_map.mpr ⟨q, sub q hq, rfl⟩), fun M p pm em np => ?_⟩
  have es : SetK.sset (L.map (·.2)) = SetK.sset (kz.map (·.2)) := SetK.sset_eq fun x => by
    constructor
    · intro h
      obtain ⟨q, hq, rfl⟩ := List.mem_map.mp h
      exact List.mem_map.mpr ⟨q, sub q hq, rfl⟩
    · intro h
      obtain ⟨q, hq, rfl⟩ := List.mem_map.mp h
      exact all q hq
  have g2 : Gr [] F H F (upd (upd H a (SetK.SetH P w a L)) p (.lst (M.map fun q => V.ref q.1))) := g1.newM np
  refine k p F _ ⟨g.tr g2, (g.tr g1).dm p np, _, upd_same, same_none g1.fh np, ?_⟩ (fun _ _ e => e) g2
  rw [← es, ← em]
  exact RA.ofKeys M fun q hq => hk q (sub q (pm.mem_iff.mp hq))
end
end Ly
/-! comprehensions with tests; a state (a list of two ints) that calls change; own lists. -/
namespace Ly
open PySem L2
section
variable {K : PySem.W.Frag} {te ta tb : TE} {σ : L2.St} {F H F1 H1 : Hp} {d e : PyData} {ds es : List PyData} {tr : TA} {D : Ends} {tz tu tw : TS}
theorem Mk.skip {Dl : Addr} {es : List PyData} (m : Mk K F H Dl es H1) {tt : TT} (he : ∀ F1, Gr [] F H F1 H1 → EB tt σ F1 H1 false) {A : Hp → Prop} {Q : Hp → Prop} (q : ∀ H2, Mk K F H Dl es H2 → Q H2) : tt σ H1 fun b H3 => if b = true then A H3 else Q H3 := by
  obtain ⟨F1, acc, g, h0, h1, h2, ra⟩ := m
  refine (he F1 g).go g.fh fun F2 H2 g2 => iteF (q H2 ⟨F2, acc, g.tr g2, h0, g2.hh _ _ (fun z => nomatch z) h1, g2.still h2 h1, ra.at g2.ff⟩)
theorem Mk.pass {Dl : Addr} {es : List PyData} (m : Mk K F H Dl es H1) {tt : TT} (he : ∀ F1, Gr [] F H F1 H1 → EB tt σ F1 H1 true) {A : Hp → Prop} {Q : Hp → Prop} (q : ∀ H2, Mk K F H Dl es H2 → A H2) : tt σ H1 fun b H3 => if b = true then A H3 else Q H3 := by
  obtain ⟨F1, acc, g, h0, h1, h2, ra⟩ := m
  refine (he F1 g).go g.fh fun F2 H2 g2 => iteT (q H2 ⟨F2, acc, g.tr g2, h0, g2.hh _ _ (fun z => nomatch z) h1, g2.still h2 h1, ra.at g2.ff⟩)
/-- [f a for a in xs if p a], over any walk -/
theorem lc_pure {α : Type} {xs : List α} {p : α → Bool} {f : α → PyData} {J : It} {G : Hp → Prop} {Y : Nat → Hp → V → Hp → Prop} {rel : α → V → Prop} {tt : TT} {j : Nat} {vs : List Nat} {Dl : Addr} {Q : VK}
    (w : Walk J xs.length G Y) (hY : ∀ i H x H', Y i H x H' → H' = H ∧ ∃ a, xs[i]? = some a ∧ rel a x) (s : Same F H) (nD : H Dl = none) (hG : ∀ F3 H3, Gr [] F H F3 H3 → G H3) (hz : xs.length ≤ 50000) (hw : ∀ x, wipe ((wipe σ vs).set j (some x)) vs = wipe σ vs)
    (ht : ∀ a x F3 H3, a ∈ xs → rel a x → Gr [] F H F3 H3 → EB tt ((wipe σ vs).set j (some x)) F3 H3 (p a))
    (he : ∀ a x F3 H3, a ∈ xs → p a = true → rel a x → Gr [] F H F3 H3 → ED K te ((wipe σ vs).set j (some x)) F3 H3 (f a))
    (q : ∀ v F2 H2, Gr [] F H F2 H2 → R K F2 v (.list ((xs.filter p).map f)) → Q v H2) :
    ∃ W : Nat → Nat → Hp → Prop, (∃ m, W 0 m (upd H Dl (.lst []))) ∧ ∀ i m H, W i m H →
      (J.stop i H ∧ Q (.ref Dl) H) ∨ (J.go i H ∧ ∃ Nx : Hp → Prop, (∀ H', Nx H' → ∃ m', m' < m ∧ W (i + 1) m' H') ∧ ∀ x H', J.yld i H x H' → (gName j) x (wipe σ vs) H' fun σ2 H2 => wipe σ2 vs = wipe σ vs ∧ tt σ2 H2 fun b H3 =>
        if b = true then te σ2 H3 fun y H4 => ∃ acc, H4 Dl = some (.lst acc) ∧ acc.length < sizeLine ∧ Nx (upd H4 Dl (.lst (acc ++ [y]))) else Nx H3) := by
  refine lc_it w (g := gName j) (fun i H3 => Mk K F H Dl (((xs.take i).filter p).map f) H3) (Mk.start s nD) (fun i H3 _ m => ?_) (fun i x H3 H4 hi m y => ?_) fun H3 m => ?_
  · obtain ⟨F3, g3⟩ := m.gr
    exact hG F3 H3 g3
  · obtain ⟨rfl, a, ha, ra⟩ := hY i H3 x H4 y
    have hm := List.mem_of_getElem? ha
    have et : xs.take (i + 1) = xs.take i ++ [a] := by rw [List.take_succ, ha]; rfl
    refine ⟨hw x, ?_⟩
    rw [et, List.filter_append, List.map_append]
    cases hp : p a with
    | false =>
      rw [show [a].filter p = [] by simp [hp]]
      show tt _ H4 _
      refine m.skip (fun F5 g5 => by rw [← hp]; exact ht a x F5 H4 hm ra g5) fun H5 m5 => ?_
      rw [List.map_nil, List.append_nil]
      exact m5
    | true =>
      rw [show [a].filter p = [a] by simp [hp]]
      show tt _ H4 _
      refine m.pass (fun F5 g5 => by rw [← hp]; exact ht a x F5 H4 hm ra g5) fun H5 m5 => ?_
      refine m5.turn ?_ fun F6 g6 => he a x F6 H5 hm hp ra g6
      rw [List.length_map]
      have h1 := List.length_filter_le p (xs.take i)
      rw [List.length_take] at h1
      omega
  · rw [List.take_length] at m
    exact m.done q
theorem ed_lcLF {α : Type} {xs : List α} {e f : α → PyData} {p : α → Bool} {tt : TT} {j : Nat} {vs : List Nat} (h : ED K te σ F H (.list (xs.map e))) (hz : xs.length ≤ 50000) (hw : ∀ x, wipe ((wipe σ vs).set j (some x)) vs = wipe σ vs)
    (ht : ∀ a x F1 H1, a ∈ xs → Bx F H F1 H1 → R K F1 x (e a) → EB tt ((wipe σ vs).set j (some x)) F1 H1 (p a))
    (he : ∀ a x F1 H1, a ∈ xs → p a = true → Bx F H F1 H1 → R K F1 x (e a) → ED K ta ((wipe σ vs).set j (some x)) F1 H1 (f a)) : ED K (tLc (iList K te) (gName j) tt ta vs) σ F H (.list ((xs.filter p).map f)) := fun F1 H1 g Q q => by
  refine h F1 H1 g _ fun v F2 H2 g2 r => ?_
  obtain ⟨a, ys, rfl, hs, ra⟩ := r.asLst
  refine ⟨a, rfl, ⟨ys, .inl (.inl (g2.fh _ _ hs))⟩, fun Dl nD => ?_⟩
  have hl : ys.length = xs.length := by rw [ra.len, List.length_map]
  refine lc_pure (xs := xs) (rel := fun a x => R K F2 x (e a)) (w := hl ▸ walk_list (K := K) (a := a) (xs := ys)) (fun i H x H' y => ⟨y.1, ?_⟩) g2.fh nD (fun F3 H3 g3 => .inl (.inl (g3.fh _ _ (g3.ff _ _ hs)))) hz hw (fun a x F3 H3 ha ra g3 => ht a x F3 H3 ha ((g.tr g2).tr g3) (ra.at g3.ff)) (fun a x F3 H3 ha hp ra g3 => he a x F3 H3 ha hp ((g.tr g2).tr g3) (ra.at g3.ff)) fun v F3 H3 g3 r3 => q v F3 H3 (g2.tr g3) r3
  obtain ⟨d, hd, rd⟩ := ra.back y.2
  obtain ⟨z, hz2, rfl⟩ := get_map hd
  exact ⟨z, hz2, rd⟩
/-- over a text's signs -/
theorem ed_lcSF {z : Str} {f : Nat → PyData} {p : Nat → Bool} {tt : TT} {j : Nat} {vs : List Nat} (h : ED K te σ F H (.str z)) (hz : z.cps.size ≤ 50000) (hw : ∀ x, wipe ((wipe σ vs).set j (some x)) vs = wipe σ vs)
    (ht : ∀ c F1 H1, c ∈ z.cps.toList → Bx F H F1 H1 → EB tt ((wipe σ vs).set j (some (.str ⟨#[c]⟩))) F1 H1 (p c))
    (he : ∀ c F1 H1, c ∈ z.cps.toList → p c = true → Bx F H F1 H1 → ED K ta ((wipe σ vs).set j (some (.str ⟨#[c]⟩))) F1 H1 (f c)) : ED K (tLc (iStr te) (gName j) tt ta vs) σ F H (.list ((z.cps.toList.filter p).map f)) := fun F1 H1 g Q q => by
  refine h F1 H1 g _ fun v F2 H2 g2 r => ?_
  refine ⟨z, r.asStr, fun Dl nD => ?_⟩
  have hl : z.cps.size = z.cps.toList.length := by simp
  refine lc_pure (xs := z.cps.toList) (rel := fun c x => x = .str ⟨#[c]⟩) (w := hl ▸ walk_str (z := z)) (fun i H x H' y => ⟨y.1, ?_⟩) g2.fh nD (fun F3 H3 g3 => trivial) (by rw [← hl]; exact hz) hw (fun c x F3 H3 ha ra g3 => by subst ra; exact ht c F3 H3 ha ((g.tr g2).tr g3)) (fun c x F3 H3 ha hp ra g3 => by subst ra; exact he c F3 H3 ha hp ((g.tr g2).tr g3)) fun v F3 H3 g3 r3 => q v F3 H3 (g2.tr g3) r3
  obtain ⟨c, hc, e⟩ := y.2
  exact ⟨c, by rw [Array.getElem?_toList]; exact hc, e⟩
/-- over range(n) -/
theorem ed_lcRF {n : Nat} {f : Nat → PyData} {p : Nat → Bool} {tt : TT} {j : Nat} {vs : List Nat} (h : ED K te σ F H (.int n)) (hz : n ≤ 50000) (hw : ∀ x, wipe ((wipe σ vs).set j (some x)) vs = wipe σ vs)
    (ht : ∀ c F1 H1, c < n → Bx F H F1 H1 → EB tt ((wipe σ vs).set j (some (.int (c : Nat)))) F1 H1 (p c))
    (he : ∀ c F1 H1, c < n → p c = true → Bx F H F1 H1 → ED K ta ((wipe σ vs).set j (some (.int (c : Nat)))) F1 H1 (f c)) : ED K (tLc (iRng1 (tCons te tNil)) (gName j) tt ta vs) σ F H (.list (((List.range n).filter p).map f)) := fun F1 H1 g Q q => by
  refine h F1 H1 g _ fun v F2 H2 g2 r => ?_
  refine ⟨n, by rw [r.asInt], by omega, by omega, fun Dl nD => ?_⟩
  have w : Walk (Itr 0 ((n : Int).toNat)) (List.range n).length (fun _ => True) (fun i H x H' => i < n ∧ H' = H ∧ x = .int (i : Nat)) := by
    rw [Int.toNat_natCast, List.length_range]
    exact ⟨fun _ _ hi _ => hi, fun _ _ => Nat.le_refl _, fun i H x H' hi _ y => ⟨hi, y.1, by rw [y.2, Int.zero_add]⟩⟩
  refine lc_pure (xs := List.range n) (rel := fun c x => x = .int (c : Nat)) w (fun i H x H' y => ⟨y.2.1, i, List.getElem?_range y.1, y.2.2⟩) g2.fh nD (fun F3 H3 g3 => trivial) (by simp; exact hz) hw (fun c x F3 H3 ha ra g3 => by subst ra; exact ht c F3 H3 (List.mem_range.mp ha) ((g.tr g2).tr g3)) (fun c x F3 H3 ha hp ra g3 => by subst ra; exact he c F3 H3 (List.mem_range.mp ha) hp ((g.tr g2).tr g3)) fun v F3 H3 g3 r3 => q v F3 H3 (g2.tr g3) r3
theorem ev_yes : EB tYes σ F H true := fun F1 H1 g Q q => q F1 H1 (.refl g.fh)
/-! ### a state of two ints at s -/
structure Sg (s : Addr) (F H : Hp) : Prop where
  fh : Same F H
  fs : F s = none
  st : ∃ a b : Int, H s = some (.lst [.int a, .int b])
variable {s : Addr}
theorem Sg.to (g : Sg s F H) (k : Gr [] F H F1 H1) : Sg s F1 H1 := by
  obtain ⟨a, b, e⟩ := g.st
  exact ⟨k.fh, k.still g.fs e, a, b, k.hh _ _ (fun z => nomatch z) e⟩
theorem Gr.w (k : Gr [] F H F1 H1) : Gr [s] F H F1 H1 := k.widen fun _ z => nomatch z
/-- what draws: the value is a number below m -/
def spDraw : Sp := fun vs H Q _ => ∃ (s : Addr) (m : Nat) (F : Hp), vs = [.ref s, .int m] ∧ Sg s F H ∧ 1 ≤ m ∧ m ≤ 1000 ∧ ∀ (r : Nat) H1, r < m → Gr [s] F H F H1 → Sg s F H1 → Q (.int r) H1
/-- evaluates, the state turning, to data of which A is so -/
def EM (K : PySem.W.Frag) (s : Addr) (te : TE) (σ : L2.St) (F : Hp) (A : PyData → Prop) : Prop := ∀ F1 H1, Same F F1 → Sg s F1 H1 → ∀ Q : VK, (∀ v d F2 H2, Gr [s] F1 H1 F2 H2 → Sg s F2 H2 → A d → R K F2 v d → Q v H2) → te σ H1 Q
variable {A B : PyData → Prop}
theorem EM.go (h : EM K s te σ F A) (g : Sg s F H) {Q : VK} (q : ∀ v d F2 H2, Gr [s] F H F2 H2 → Sg s F2 H2 → A d → R K F2 v d → Q v H2) : te σ H Q := h F H (Same.refl F) g Q q
theorem EM.up (h : EM K s te σ F A) (g : Same F F1) : EM K s te σ F1 A := fun F2 H2 k => h F2 H2 (g.trans k)
theorem em_of (h : ED K te σ F H d) (a : A d) : EM K s te σ F A := fun F1 H1 g k Q q => h F1 H1 ⟨g, k.fh⟩ Q fun v F2 H2 g2 r => q v d F2 H2 g2.w (k.to g2) a r
theorem EM.weak (h : EM K s te σ F A) (w : ∀ d, A d → B d) : EM K s te σ F B := fun F1 H1 g k Q q => h F1 H1 g k Q fun v d F2 H2 g2 k2 a r => q v d F2 H2 g2 k2 (w d a) r
theorem em_draw {i : Nat} {m : Nat} (hi : σ[i]? = some (some (.ref s))) (h : ED K te σ F H (.int m)) (h1 : 1 ≤ m) (h2 : m ≤ 1000) : EM K s (tCall spDraw [] E0 (tCons (tVar i) (tCons te tNil))) σ F (fun d => ∃ r : Nat, d = .int r ∧ r < m) := fun F1 H1 g k Q q =>
  ⟨.ref s, hi, h F1 H1 ⟨g, k.fh⟩ _ fun v F2 H2 g2 r => by
    refine ⟨s, m, F2, by rw [r.asInt]; rfl, k.to g2, h1, h2, fun r H3 hr g3 k3 => ?_⟩
    exact q (.int r) (.int r) F2 H3 ((Gr.w g2).trM g3) k3 ⟨r, rfl, hr⟩ (.int r)⟩
/-- two things, the state turning, then a rule -/
theorem em_op {r : R2} (ha : EM K s ta σ F A) (hb : ∀ F1, Same F F1 → EM K s tb σ F1 B) {C : PyData → Prop} (hr : ∀ d e, A d → B e → ∃ f, C f ∧ ∀ F1 H1, RR K r F1 H1 d e f) : EM K s (tOp r ta tb) σ F C := fun F1 H1 g k Q q =>
  ha F1 H1 g k _ fun v d F2 H2 g2 k2 a r1 => hb F2 (g.trans g2.ff) F2 H2 (Same.refl F2) k2 _ fun u e F3 H3 g3 k3 b r2 => by
    obtain ⟨f, cf, rr⟩ := hr d e a b
    exact rr F3 H3 F3 H3 (.refl k3.fh) v u (r1.at g3.ff) r2 Q fun z F4 H4 g4 r4 => q z f F4 H4 ((g2.trM g3).trM g4.w) (k3.to g4) cf r4
/-! ### statements -/
theorem qm_set {i : Nat} (h : EM K s te σ F A) (g : Sg s F H) (k : ∀ v d F1 H1, Gr [s] F H F1 H1 → Sg s F1 H1 → A d → R K F1 v d → tz D (σ.set i (some v)) H1) : tSeq (tAsg te (gName i)) tz D σ H := h.go g k
theorem qm_ret (h : EM K s te σ F A) (g : Sg s F H) (k : ∀ v d F1 H1, Gr [s] F H F1 H1 → Sg s F1 H1 → A d → R K F1 v d → D.rt v H1) : tRet te D σ H := h.go g k
theorem rr_ixS {z : Str} {i : Nat} {c : Nat} (h : z.cps.toList[i]? = some c) (hz : z.length ≤ 100000) : RR K rIxS F H (.str z) (.int i) (.str ⟨#[c]⟩) := fun F1 H1 g x y r1 r2 Q q => by
  cases r1.asStr
  cases r2.asInt
  exact ⟨z, i, c, rfl, rfl, Nat.le_trans hz (by decide), atI_nat h, q _ F1 H1 (.refl g.fh) (.str _)⟩
theorem rr_addS {x y : Str} (hz : x.length + y.length ≤ 100000) : RR K rAddS F H (.str x) (.str y) (.str (x ++ y)) := fun F1 H1 g u v r1 r2 Q q => by
  cases r1.asStr
  cases r2.asStr
  exact ⟨x, y, rfl, rfl, Nat.le_trans hz (by decide), q _ F1 H1 (.refl g.fh) (.str _)⟩
theorem rr_add {i j : Int} : RR K (rI0 fun i j => .int (i + j)) F H (.int i) (.int j) (.int (i + j)) := rr_I0 (gg := fun i j => i + j)
theorem rr_sub {i j : Int} : RR K (rI0 fun i j => .int (i - j)) F H (.int i) (.int j) (.int (i - j)) := rr_I0 (gg := fun i j => i - j)
theorem rr_I {C : Int → Int → Prop} {gg : Int → Int → Int} {i j : Int} (h : C i j) : RR K (rI C fun i j => .int (gg i j)) F H (.int i) (.int j) (.int (gg i j)) := fun F1 H1 g u v r1 r2 Q q => by
  cases r1.asInt
  cases r2.asInt
  exact ⟨i, j, rfl, rfl, h, q _ F1 H1 (.refl g.fh) (.int _)⟩
theorem rr_B {p : Int → Int → Bool} {i j : Int} : RR K (rI0 fun i j => .bl (p i j)) F H (.int i) (.int j) (.bool (p i j)) := fun F1 H1 g u v r1 r2 Q q => by
  cases r1.asInt
  cases r2.asInt
  exact ⟨i, j, rfl, rfl, q _ F1 H1 (.refl g.fh) (.bl _)⟩
theorem rr_eqI {i j : Int} : RR K rEq F H (.int i) (.int j) (.bool (decide (i = j))) := fun F1 H1 g u v r1 r2 Q q => by
  cases r1.asInt
  cases r2.asInt
  refine ⟨rfl, ?_⟩
  rw [show decide (V.int i = V.int j) = decide (i = j) by simp]
  exact q _ F1 H1 (.refl g.fh) (.bl _)
/-- for x in range(n), n drawn -/
theorem qm_forR {j : Nat} {tb : TS} (h : EM K s te σ F A) (g : Sg s F H) (k : ∀ d F1 H1, Gr [s] F H F1 H1 → Sg s F1 H1 → A d → ∃ n : Nat, d = .int n ∧ n ≤ 100000 ∧ ∃ Pv : Nat → L2.St → Hp → Prop, Pv 0 σ H1 ∧
      (∀ (i : Nat) σ2 H2, i < n → Pv i σ2 H2 → tb { D with nx := Pv (i + 1), ct := Pv (i + 1), bk := tz D } (σ2.set j (some (.int (i : Nat)))) H2) ∧ ∀ σ2 H2, Pv n σ2 H2 → tz D σ2 H2) : tSeq (tFor (iRng1 (tCons te tNil)) (gName j) tb) tz D σ H := by
  refine h.go g fun v d F1 H1 g1 k1 a r => ?_
  obtain ⟨n, rfl, hn, Pv, p0, ps, pd⟩ := k d F1 H1 g1 k1 a
  refine ⟨n, by rw [r.asInt], by omega, by omega, ?_⟩
  rw [Int.toNat_natCast]
  refine for_range (lo := 0) (n := n) (D := { D with nx := tz D }) Pv p0 (fun i σ2 H2 hi p => ?_) pd
  rw [Int.zero_add]
  exact ps i σ2 H2 hi p
/-- the last statement of a block: for x in range(n) -/
theorem sm_forR {j : Nat} {tb : TS} (h : EM K s te σ F A) (g : Sg s F H) (k : ∀ d F1 H1, Gr [s] F H F1 H1 → Sg s F1 H1 → A d → ∃ n : Nat, d = .int n ∧ n ≤ 100000 ∧ ∃ Pv : Nat → L2.St → Hp → Prop, Pv 0 σ H1 ∧
      (∀ (i : Nat) σ2 H2, i < n → Pv i σ2 H2 → tb { D with nx := Pv (i + 1), ct := Pv (i + 1), bk := D.nx } (σ2.set j (some (.int (i : Nat)))) H2) ∧ ∀ σ2 H2, Pv n σ2 H2 → D.nx σ2 H2) : tFor (iRng1 (tCons te tNil)) (gName j) tb D σ H := by
  refine h.go g fun v d F1 H1 g1 k1 a r => ?_
  obtain ⟨n, rfl, hn, Pv, p0, ps, pd⟩ := k d F1 H1 g1 k1 a
  refine ⟨n, by rw [r.asInt], by omega, by omega, ?_⟩
  rw [Int.toNat_natCast]
  refine for_range (lo := 0) (n := n) (D := D) Pv p0 (fun i σ2 H2 hi p => ?_) pd
  rw [Int.zero_add]
  exact ps i σ2 H2 hi p
/-! ### lists that may change -/
def Li (K : PySem.W.Frag) (F H : Hp) (p : Addr) (es : List PyData) : Prop := ∃ acc, H p = some (.lst acc) ∧ F p = none ∧ RA K F acc es
variable {M : List Addr} {p : Addr}
theorem Li.more (l : Li K F H p es) (g : Gr M F H F1 H1) (h : p ∉ M) : Li K F1 H1 p es := by
  obtain ⟨acc, h1, h2, ra⟩ := l
  exact ⟨acc, g.hh _ _ h h1, g.still h2 h1, ra.at g.ff⟩
theorem Li.still (l : Li K F H p es) {F0 H0 : Hp} (g : Gr M F0 H0 F H) (h0 : H0 p = none) : ∃ F2, Gr M F0 H0 F2 H ∧ Same F F2 ∧ R K F2 (.ref p) (.list es) ∧ (∀ b, b ≠ p → F b = none → F2 b = none) := by
  obtain ⟨acc, h1, h2, ra⟩ := l
  have s : Same F (upd F p (.lst acc)) := fun b u e => by rw [upd_ne (ne_some h2 e)]; exact e
  exact ⟨_, g.freeze h1 h2 h0, s, .lst upd_same (ra.at s), fun b hb e => by rw [upd_ne hb]; exact e⟩
theorem Own.li {F0 H0 : Hp} (o : Own K F0 H0 F H p es) : Li K F H p es := o.ex
/-- p.append(e), e of a turning state -/
theorem app_em {i : Nat} (l : Li K F H p es) (hi : σ[i]? = some (some (.ref p))) (h : EM K s te σ F A) (g : Sg s F H) (ne : p ≠ s) (hz : es.length < 100000) {D : Ends}
    (k : ∀ d F1 H1, Gr [s, p] F H F1 H1 → Sg s F1 H1 → A d → Li K F1 H1 p (es ++ [d]) → (∃ H2 acc, Gr [s] F H F1 H2 ∧ H1 = upd H2 p (.lst acc)) → D.nx σ H1) : tDrop (tBM K "list" rAppend (tVar i) (tCons te tNil)) D σ H := by
  obtain ⟨acc, h1, h2, ra⟩ := l
  refine ⟨.ref p, hi, .inl ⟨rfl, _, .inl (.inl h1)⟩, ?_⟩
  refine h.go g fun v d F1 H1 g1 k1 a r => ?_
  have hp : p ∉ [s] := fun z => ne (List.mem_singleton.mp z)
  have e1 := g1.hh _ _ hp h1
  have e2 := g1.still h2 h1
  refine ⟨p, acc, v, rfl, rfl, e1, ?_, ?_⟩
  · rw [ra.len]; exact Nat.lt_of_lt_of_le hz (by decide)
  · have gw : Gr [s, p] F H F1 H1 := g1.widen fun b hb => List.mem_cons.mpr (.inl (List.mem_singleton.mp hb))
    have g2 : Gr [s, p] F H F1 (upd H1 p (.lst (acc ++ [v]))) := gw.put e2 (.inl (List.mem_cons_of_mem _ List.mem_cons_self))
    obtain ⟨x, y, es⟩ := k1.st
    refine k d F1 _ g2 ⟨g2.fh, k1.fs, x, y, ?_⟩ a ⟨acc ++ [v], upd_same, e2, (ra.at g1.ff).app (.cons r .nil)⟩ ⟨H1, acc ++ [v], g1, rfl⟩
    rw [upd_ne (Ne.symm ne)]
    exact es
end
end Ly
/-! exceptions held as values: isinstance, fields. -/
namespace Ev
open PySem PySem.Spec PySem.Calls PyProof.Rows PySem.W
section
variable {prog : Program} {w : World} {A : Around} {E : Value → Shared → Prop} {s : Shared} {K : Frag} {x D : Addr}
theorem found_cls {od : Option Obj} (T : L2.ExcC K D) : findObj K D od "__class__" = some (.bind (.builtin "getset_descriptor.__get__") (.builtin "object.__class__")) := by
  obtain ⟨cd, hc, _⟩ := any_some T.hd
  unfold findObj
  rw [hc, Option.bind_some, T.ha, Option.bind_some]
  simp [T.hn, T.ht]
/-- e.__class__, e with or without a dict -/
theorem cls_of {ox : Obj} {od : Option Obj} {Q : Option Value → Shared → Prop} (T : L2.ExcC K D) (X : K.In s.heap) (J : InstAt s.heap x ox D od) (q : Q (some (.ref D)) { s with toks := s.toks + 1 }) : wpAny (model prog w) A (getAttr? (.ref x) "__class__") Q E s := by
  obtain ⟨hh, gg, dd, tt, oo⟩ := s
  have T0 := J.type (M := model prog w)
  have T1 := looks_findIn (M := model prog w) X T.hg
  have T2 := looks_findIn (M := model prog w) X T.hk
  have T3 := looks_find (M := model prog w) X J (found_cls T)
  have T4 : Looks (model prog w) hh (isInstance (.ref x) (.type "BaseException")) true := T0.andThen (looks_subIn X T.hs)
  have n1 : (Value.builtin "BaseException.__getattribute__" == Value.builtin "object.__getattribute__") = false := by decide +kernel
  have n2 : (onTheHeap (Value.ref D) && Value.builtin "BaseException.__getattribute__" == Value.builtin "object.__getattribute__") = false := by rw [n1, Bool.and_false]
  unfold getAttr? getAttrBy? getAttrBy
  refine wpAny_bind (wpAny_mkText (wpAny_bind (wpAny_attempt (wpAny_holding (wpAny_bind (T0.at (wpAny_bind (T1.at ?one))))))))
  show wpAny _ _ (if (onTheHeap (Value.ref D) && Value.builtin "BaseException.__getattribute__" == Value.builtin "object.__getattribute__") = true then _ else _) _ _ (_ : Shared)
  rw [n2, if_neg (by decide)]
  unfold getAttrByItsOwn hookBefore
  refine wpAny_bind ?_
  rw [if_pos (by rfl : onTheHeap (Value.ref D) = true)]
  refine T2.at (wpAny_bind (wpAny_attempt (wpAny_holding ?_)))
  unfold callGetattribute
  rw [show (false && onTheHeap (Value.builtin "BaseException.__getattribute__")) = false from rfl, if_neg (by decide)]
  unfold boundAndCalled
  rw [PySem.F.excAttr_ValueError.ga.bind (Value.ref x)]
  refine wpAny_bind (wpAny_pure ?_)
  show wpAny _ _ (call (.builtin "BaseException.__getattribute__") [.ref x, .str "__class__" tt]) _ _ (_ : Shared)
  refine wpAny_call (codeAny_call_builtin PySem.F.excAttr_ValueError.ga.plain PySem.F.entry_bexc_ga (@check_slot (model prog w) _ _ ⟨hh, gg, dd, tt + 1, oo⟩ "BaseException.__getattribute__" "BaseException" "__getattribute__" (.ref x) [.str "__class__" tt] [] _ (by decide +kernel) (by decide +kernel) T4 (PySem.F.args_bexc_ga (.ref x) (.str "__class__" tt)) ?two))
  unfold Builtin.«object.__getattribute__»
  refine wpAny_bind (wpAny_of_eq (a := ((Value.ref x : Value), [Value.str "__class__" tt])) (by first | rfl | (simp only [slotArgs]; rfl)) (wpAny_bind (wpAny_pure (wpAny_bind (T0.at (wpAny_bind (T3.at ?three)))))))
  show wpAny _ _ (holding [Value.builtin "object.__class__"] (call (.builtin "getset_descriptor.__get__") [.builtin "object.__class__", .ref x, .ref D]) >>= ret) _ _ (_ : Shared)
  refine wpAny_bind (wpAny_holding (wpAny_call (class_get (s := ⟨hh, gg, dd, tt + 1, oo⟩) (ox := ox) (od := od) X J T.hm (wpAny_pure ?_))))
  show wpAny _ _ (handedOut (.ref D)) _ _ (_ : Shared)
  rw [handedOut_of (v := .ref D) rfl]
  first
    | exact wpAny_pure (wpAny_pure q)
    | exact wpAny_pure q
    | exact wpAny_pure (wpAny_bind (wpAny_pure (wpAny_pure q)))
theorem kit_of (T : L2.ExcC K D) : KitX K (.ref x) (.ref D) (fun h => ∃ ox od, InstAt h x ox D od) where
  ty := fun _ _ _ ⟨_, _, J⟩ => J.type
  it := fun _ _ X _ => by
    obtain ⟨cd, hc, _⟩ := any_some T.hd
    unfold clsIn at hc
    split at hc
    · rename_i ho
      intro A' Q' E' s' k q
      unfold isType loadHead
      exact wpAny_bind (wpAny_loadPart (k _ _ (X _ _ ho)) (wpAny_pure q))
    · cases hc
  ne := fun h tp dd its n sl X htp => by
    obtain ⟨cd, hc, _⟩ := any_some T.hd
    refine Bool.eq_false_iff.mpr fun q => ?_
    cases Value.ref.inj (beq_iff_eq.mp q)
    unfold clsIn at hc
    split at hc
    · rename_i ho
      cases (X _ _ ho).symm.trans htp
    · cases hc
  ca := fun X ⟨_, _, J⟩ k => cls_of T X J k
end
end Ev
namespace L2
open PySem PySem.Spec PyProof.Rows
/-- an exception of the class D stands at a -/
def ExAt (K : PySem.W.Frag) (H : Hp) (a D : Addr) : Prop := H a = some (ExO (.ref D) a) ∨ H a = some (exo a D none) ∨ ∃ d fs, H a = some (exo a D (some d)) ∧ H d = some (exd d fs)
section
variable {X : Cx} {pins : List (Addr × Obj)} {σ : St} {H : Hp} {s : Shared} {a D : Addr}
theorem ExAt.inst (h : ExAt X.K H a D) (I : Inv X pins σ H s) : ∃ ox od, PySem.W.InstAt s.heap a ox D od := by
  rcases h with h | h | ⟨d, fs, h, hd⟩
  · obtain ⟨⟨oe, vs, ho, hz, hv, _⟩, _, _⟩ := I.hok a _ h
    obtain ⟨oc, od, oda, osl⟩ := oe
    obtain ⟨h1, h2⟩ := hz
    dsimp only at h1 h2 hv
    subst h1 h2 hv
    exact ⟨_, none, ho, rfl, rfl, trivial⟩
  · obtain ⟨t1, ho⟩ := exo_at I.hok h
    exact ⟨_, none, ho, rfl, rfl, trivial⟩
  · obtain ⟨t1, ho⟩ := exo_at I.hok h
    obtain ⟨mA, hns, _⟩ := exd_at I.hok hd
    obtain ⟨od, h1, _⟩ := lookIn_ns hns
    exact ⟨_, some od, ho, rfl, rfl, h1⟩
/-- isinstance(e, c), e an exception held as a value -/
def rIsV (K : PySem.W.Frag) : List V → Hp → VK → Prop := fun xs H Q => ∃ (a D : Addr) (c : V) (cv : Value) (b : Bool), xs = [.ref a, c] ∧ ExAt K H a D ∧ ExcC K D ∧ (∀ u, RelV c u → u = cv) ∧ PySem.W.kitOne K (.ref D) cv = some b ∧ Q (.bl b) H
theorem call_isV : CallR X (.builtin "isinstance") (rIsV X.K) := by
  rintro pins s σ H xs us Q I r ⟨a, D, c, cv, b, rfl, hx, T, hcv, e, q⟩
  cases r with
  | cons rx rr => cases rr with
    | cons rt rr =>
      cases rr
      cases rx
      cases hcv _ rt
      exact PySem.W.kia_one (Ev.kit_of T) I.kIn (hx.inst I) e (fun z => nomatch z) fun tk => ⟨.bl b, H, I.kept (t' := tk) fun _ _ z => z, rfl, q⟩
end
end L2
/-! making exceptions of own classes as values; Base.__init__(self, ..); fields. -/
namespace L2
open PySem PySem.Spec PyProof.Rows
/-- C.__init__ is ValueError's -/
structure SupC (K : PySem.W.Frag) (C : Addr) : Prop where
  rd : PySem.W.readsIn K C (.type "type") = true
  ga : PySem.W.specialIn K (.ref C) "__getattribute__" = some (some (.builtin "type.__getattribute__"))
  at_ : PySem.W.findCls K (.ref C) (.type "type") "__init__" = some (.val (.builtin "ValueError.__init__"))
section
variable {X : Cx} {e : Expr} {es : List Expr} {te : TE} {ta : TA} {n : Str} {p p1 p2 pos : Pos}
/-- B.__init__(self, ..) -/
theorem pe_binit {x : Str} {B : Addr} {pl : Sem Bool} (hg : Gl X x) (hm : X.mg x = some (.ref B)) (S : SupC X.K B) (ha : PA X (e :: es) ta)
    (hc : eval (.Call (.Attribute (.Name x p1) "__init__" p2) (e :: es) [] pos) X.env = (do let ov ← eval (.Name x p1) X.env; standAt p2.atName; let (f, first) ← holding [ov] (getMethod ov "__init__" pl); callWith pos f first (backTo pos (starEach (e :: es) X.env)) (backToKw pos (keywordEach [] X.env))) := by rfl)
    (hdb : (x == ("__debug__" : Str)) = false := by decide) (he : starEach (e :: es) X.env = (false, eval e X.env) :: starEach es X.env := by rfl) (hpl : (backTo pos (starEach es X.env)).any (·.1) = false := by rfl) :
    PE X (.Call (.Attribute (.Name x p1) "__init__" p2) (e :: es) [] pos) (tVeI X.K ta) := by
  refine ⟨fun pins s σ H Q I h => PySem.W.methodCall_KW (ld_glob I hg hm ?_ hdb) hc⟩
  refine PySem.W.method_cls I.kIn S.ga (PySem.W.cls_value I.kIn S.rd S.at_ rfl ?_)
  show wpAny _ _ (callWith pos (Value.builtin "ValueError.__init__") [] (backTo pos (starEach (e :: es) X.env)) []) _ _ (_ : Shared)
  refine PyProof.Rows.callWith_method1 (thn (ha.run pos pins _ σ H _ (I.tok _) h) fun us s1 z => ?_) he hpl
  obtain ⟨vs, H1, I1, r1, a, C, ws, rfl, hl, T, ea, q⟩ := z
  cases r1 with
  | @cons _ u0 _ ur ra rest =>
    obtain rfl : u0 = Value.ref a := ra
    exact oinit_ok T I1 ea (by rw [← Paired.length rest, sizeLine_eq]; omega) fun s' J => ⟨.non, H1, J, rfl, q⟩
/-- C(e, ..) as a value, C's own __init__ keeping sp -/
def tMkV (C : Addr) (sp : Sp) (ta : TA) : TE := fun σ H Q => ta σ H fun vs H1 => vs.length ≤ 1000 ∧ ∀ a, H1 a = none → sp (.ref a :: vs) (upd H1 a (exo a C none)) (fun v H2 => v = .non ∧ Q (.ref a) H2) (fun _ _ _ => False)
theorem pe_mkV {CX : CXT} {x : Str} {C fI : Addr} {k : Nat} {fd : FuncData} {ps : List Str} {sp : Sp} (T : OexC X.K C) (iC : PySem.W.findIn X.K (.ref C) "__init__" = some (some (.ref fI))) (tI : PySem.W.typeIn X.K (.ref fI) = some (.type "function"))
    (F1 : FnOk X.prog X.w X.K X.mg X.base CX k fI fd ps sp) (hr : Room (k + 1) X.A) (hb : Binds X.K fd ps []) (hx : Passes CX X (fun _ _ _ => False)) (hg : Gl X x) (hm : X.mg x = some (.ref C)) (ha : PA X (e :: es) ta)
    (hdb : (x == ("__debug__" : Str)) = false := by decide) (he : starEach (e :: es) X.env = (false, eval e X.env) :: starEach es X.env := by rfl) (hpl : (backTo pos (starEach es X.env)).any (·.1) = false := by rfl) :
    PE X (.Call (.Name x p) (e :: es) [] pos) (tMkV C sp ta) := by
  refine ⟨fun pins s σ H Q I h => ?_⟩
  obtain ⟨nm, q, N, bs, bm, sn, sub, ab, col, dd, k0, k1, k2, k3, k5, hC, hbm⟩ := T.cls
  refine wpAny_Call_Name_kw (ld_glob I hg hm (PySem.W.callWith_K (h₀ := X.base) I.ok.mod.kin T.kC (thn (ha.run pos pins s σ H _ I h) fun us s1 z => ?_) he hpl) hdb)
  obtain ⟨vs, H1, I1, r1, hz, q1⟩ := z
  refine ⟨I1.kIn, ?_⟩
  show wpAny _ _ (call (.ref C) us) _ _ (_ : Shared)
  obtain ⟨hp, g, dr, tk, os⟩ := s1
  have up1 : hp.objs.size ≤ hp.objs.size + 1 := Nat.le_succ _
  have hq := q1 (hp.objs.size + 1) (I1.hok.fresh up1)
  have there : ((hp.push (PySem.W.kdv_tup us)).push (PySem.HandSPX.excO C hp.objs.size)).get? (hp.objs.size + 1) = some (PySem.HandSPX.excO C hp.objs.size) := by heap_get
  have I2 : Inv X pins σ (upd H1 (hp.objs.size + 1) (exo (hp.objs.size + 1) C none)) ⟨(hp.push (PySem.W.kdv_tup us)).push (PySem.HandSPX.excO C hp.objs.size), g, dr, tk, os⟩ :=
    I1.laid (t' := tk) (a := hp.objs.size + 1) (o := exo (hp.objs.size + 1) C none) (h' := (hp.push (PySem.W.kdv_tup us)).push (PySem.HandSPX.excO C hp.objs.size)) (fun b o z => Heap.get?_push_of_some _ (Heap.get?_push_of_some _ z)) up1 (exo_ok there)
  have r2 : Vals (V.ref (hp.objs.size + 1) :: vs) (Value.ref (hp.objs.size + 1) :: us) := .cons rfl r1
  have hl : (Value.ref (hp.objs.size + 1) :: us).length = ps.length := r2.length.symm.trans (F1.len _ _ _ _ hq)
  have hb2 := hb _ (Value.ref (hp.objs.size + 1) :: us) I2.kIn (by rw [List.append_nil]; exact hl)
  rw [List.append_nil] at hb2
  refine wpAny_call (PySem.HandSPX.call_own F.excBase_ValueError (fun Y => PySem.HandSPX.refsVE_contains Y bm hbm) (I1.kIn _ _ hC) (PySem.W.looks_findIn I1.kIn iC) (fun self => PySem.W.bind_fn I1.kIn self tI) (by rw [← Paired.length r1, sizeLine_eq]; omega)
    (codeAny_mono (F1.run _ X.stack _ _ ⟨Value.ref (hp.objs.size + 1) :: us, []⟩ (Value.ref (hp.objs.size + 1) :: us) _ _ (fun _ _ _ => False) (hr.make C us []) (I2.env0.make C us []) hb2 r2 hq) fun r s' z => ?_))
  cases r with
  | error er => exact hx pins σ _ _ er s' I2 z
  | ok fl =>
    cases fl with
    | ret u =>
      obtain ⟨v, H2, os2, bare2, un2, hok2, rv, rfl, q2⟩ := z
      exact ⟨rv, .ref (hp.objs.size + 1), H2, I2.call' (ch := []) os2 un2 hok2 bare2 (fun b z => absurd z (by simp)), rfl, q2⟩
    | next => exact False.elim z
    | brk => exact False.elim z
    | cont => exact False.elim z
/-- e.n, e an exception held as a value -/
def tXv (K : PySem.W.Frag) (n : Str) (te : TE) : TE := fun σ H Q => te σ H fun x H1 => ∃ (a C d : Addr) (fs : List (Str × V)) (v : V), x = .ref a ∧ XfC K C ∧ PySem.W.findIn K (.ref C) n = some none ∧ H1 a = some (exo a C (some d)) ∧ H1 d = some (exd d fs) ∧ fs.lookup n = some v ∧ Q v H1
theorem pe_xv (he : PE X e te) (hb : attributeBase e n X.env (eval e X.env) = eval e X.env := by rfl) : PE X (.Attribute e n pos) (tXv X.K n te) := by
  refine ⟨fun pins s σ H Q I h => attr_of hb (thn (he.run pins s σ H _ I h) fun u s1 z => ?_)⟩
  obtain ⟨x, H1, I1, rx, a, C, d, fs, v, rfl, T, hno, ha, hd, l, q⟩ := z
  obtain rfl : u = Value.ref a := rx
  obtain ⟨t1, ho⟩ := exo_at I1.hok ha
  obtain ⟨mA, hns, hr⟩ := exd_at I1.hok hd
  obtain ⟨od, h1, hl⟩ := lookIn_ns hns
  obtain ⟨u, hu, ru⟩ := RelO.some_of (v := v) (o := mA n) (by rw [← l]; exact hr n)
  have J : PySem.W.InstAt s1.heap a _ C (some od) := ⟨ho, rfl, rfl, h1⟩
  exact HandSPX.exc_get I1.kIn J T.ga T.gg T.exC (PySem.W.findObj_own T.hdC hno rfl (by rw [hl, hu])) (handed_of ru) ⟨v, H1, I1.tok _, ru, q⟩
end
end L2
/-! exceptions held as values, over the layer of data. -/
namespace Ly
open PySem L2
section
variable {K : PySem.W.Frag} {F H F1 H1 : Hp} {σ : L2.St} {a D c : Addr} {te : TE} {tr : TA} {d : PyData} {b : Bool}
theorem exAt_up (s : Same F F1) (h : ExAt K F a D) : ExAt K F1 a D := by
  rcases h with h | h | ⟨d, fs, h, hd⟩
  · exact .inl (s _ _ h)
  · exact .inr (.inl (s _ _ h))
  · exact .inr (.inr ⟨d, fs, s _ _ h, s _ _ hd⟩)
/-- isinstance(e, C) -/
theorem ed_isV {i : Nat} (hi : σ[i]? = some (some (.ref a))) (hx : ExAt K F a D) (T : ExcC K D) (k : PySem.W.kitOne K (.ref D) (.ref c) = some b) : ED K (tCB (rIsV K) (tCons (tVar i) (tCons (tC (.ref c)) tNil))) σ F H (.bool b) := fun F1 H1 g Q q =>
  ⟨.ref a, hi, a, D, .ref c, .ref c, b, rfl, exAt_up (g.ff.trans g.fh) hx, T, fun u r => r, k, q (.bl b) F1 H1 (.refl g.fh) (.bl b)⟩
/-- evaluates to exceptions of these classes -/
def EXs (K : PySem.W.Frag) (tr : TA) (σ : L2.St) (F H : Hp) (Ds : List Addr) : Prop := ∀ F1 H1, Bx F H F1 H1 → ∀ Q : List V → Hp → Prop, (∀ as F2 H2, Gr [] F1 H1 F2 H2 → Paired (ExAt K F2) as Ds → Q (as.map V.ref) H2) → tr σ H1 Q
def EX (K : PySem.W.Frag) (te : TE) (σ : L2.St) (F H : Hp) (D : Addr) : Prop := ∀ F1 H1, Bx F H F1 H1 → ∀ Q : VK, (∀ a F2 H2, Gr [] F1 H1 F2 H2 → ExAt K F2 a D → Q (.ref a) H2) → te σ H1 Q
theorem exs_nil : EXs K tNil σ F H [] := fun F1 H1 g Q q => q [] F1 H1 (.refl g.fh) .nil
theorem paired_up (s : Same F F1) : ∀ {as Ds : List Addr}, Paired (ExAt K F) as Ds → Paired (ExAt K F1) as Ds
  | _, _, .nil => .nil
  | _, _, .cons h t => .cons (exAt_up s h) (paired_up s t)
theorem exs_cons {Ds : List Addr} (ha : EX K te σ F H D) (hr : EXs K tr σ F H Ds) : EXs K (tCons te tr) σ F H (D :: Ds) := fun F1 H1 g Q q =>
  ha F1 H1 g _ fun a F2 H2 g2 x => hr F2 H2 (g.tr g2) _ fun as F3 H3 g3 xs => q (a :: as) F3 H3 (g2.tr g3) (.cons (exAt_up g3.ff x) xs)
/-- X('..') -/
theorem ex_new {ta : TE} {C : Addr} (ha : ED K ta σ F H d) : EX K (fun σ H Q => ta σ H fun _ H1 => ∀ a, H1 a = none → Q (.ref a) (upd H1 a (ExO (.ref C) a))) σ F H C := fun F1 H1 g Q q =>
  ha F1 H1 g _ fun v F2 H2 g2 r a na => q a _ _ (g2.tr ((Gr.refl g2.fh).new na)) (.inl upd_same)
end
end Ly
/-! the six __init__ -/
namespace Wr
open PySem PySem.Spec PyProof.Rows L2 Ly
def topS (i : Nat) : Stmt := PySem.Challenge.pw_goalsmith_k17_refusals.main.body.getD i (.Pass ⟨0, 0, 0, 0⟩)
def spIn (C : Addr) : Sp := fun vs H Q _ => ∃ (a : Addr) (y : V), vs = [.ref a, y] ∧ H a = some (exo a C none) ∧ ∀ dx, H dx = none → dx ≠ a → Q .non (upd (upd H dx (exd dx [("at", y)])) a (exo a C (some dx)))
def spLeft (C : Addr) : Sp := fun vs H Q _ => ∃ (a : Addr) (y z : V), vs = [.ref a, y, z] ∧ H a = some (exo a C none) ∧ ∀ dx, H dx = none → dx ≠ a → Q .non (upd (upd (upd H dx (exd dx [("at", y)])) a (exo a C (some dx))) dx (exd dx [("goals", z), ("at", y)]))
section
variable {P : Program} {w : World} {K : PySem.W.Frag} {mg : Str → Option Value} {base : Heap} {f C B : Addr} {fd : FuncData}
abbrev sNoRow : Stmt := (inClass (topS 12) 0)
theorem scNoRow : FnScope ["self", "at"] ["self", "at"] (defScope sNoRow) := ⟨rfl, rfl, rfl, by decide +kernel, rfl, by decide +kernel, by decide +kernel⟩
theorem ok_NoRow (D : Fun K "__init__" "NoRow.__init__" sNoRow f fd) (T : OexC K C) (hno : PySem.W.findIn K (.ref C) "at" = some none) (gB : mg "SmithError" = some (.ref B)) (S : SupC K B) : FnOk P w K mg base CX0 1 f fd ["self", "at"] (spIn C) := by
  refine D.ok scNoRow (fun vs H Q E h => ?_) (fun cdv A outer s H vs Q E hr h => ⟨_, pss_cons (ps_expr (pe_binit (by rfl) gB S (pa_cons (pv 0) (pa_cons pe_str pa_nil)))) (pss_one (ps_ost (pv 0) (pv 1))), ?_⟩)
  · obtain ⟨a, y, rfl, _⟩ := h
    rfl
  · obtain ⟨a, y, rfl, ha, q⟩ := h
    exact ⟨.ref a, rfl, a, C, [_], rfl, by show 1 ≤ 1000; decide, T, ha, y, rfl, .ref a, rfl, a, C, rfl, T, hno, .inl ⟨ha, fun dx nd ne => q dx nd ne⟩⟩
abbrev sBadText : Stmt := (inClass (topS 13) 0)
theorem scBadText : FnScope ["self", "at"] ["self", "at"] (defScope sBadText) := ⟨rfl, rfl, rfl, by decide +kernel, rfl, by decide +kernel, by decide +kernel⟩
theorem ok_BadText (D : Fun K "__init__" "BadText.__init__" sBadText f fd) (T : OexC K C) (hno : PySem.W.findIn K (.ref C) "at" = some none) (gB : mg "SmithError" = some (.ref B)) (S : SupC K B) : FnOk P w K mg base CX0 1 f fd ["self", "at"] (spIn C) := by
  refine D.ok scBadText (fun vs H Q E h => ?_) (fun cdv A outer s H vs Q E hr h => ⟨_, pss_cons (ps_expr (pe_binit (by rfl) gB S (pa_cons (pv 0) (pa_cons pe_str pa_nil)))) (pss_one (ps_ost (pv 0) (pv 1))), ?_⟩)
  · obtain ⟨a, y, rfl, _⟩ := h
    rfl
  · obtain ⟨a, y, rfl, ha, q⟩ := h
    exact ⟨.ref a, rfl, a, C, [_], rfl, by show 1 ≤ 1000; decide, T, ha, y, rfl, .ref a, rfl, a, C, rfl, T, hno, .inl ⟨ha, fun dx nd ne => q dx nd ne⟩⟩
abbrev sTaken : Stmt := (inClass (topS 14) 0)
theorem scTaken : FnScope ["self", "at"] ["self", "at"] (defScope sTaken) := ⟨rfl, rfl, rfl, by decide +kernel, rfl, by decide +kernel, by decide +kernel⟩
theorem ok_Taken (D : Fun K "__init__" "Taken.__init__" sTaken f fd) (T : OexC K C) (hno : PySem.W.findIn K (.ref C) "at" = some none) (gB : mg "SmithError" = some (.ref B)) (S : SupC K B) : FnOk P w K mg base CX0 1 f fd ["self", "at"] (spIn C) := by
  refine D.ok scTaken (fun vs H Q E h => ?_) (fun cdv A outer s H vs Q E hr h => ⟨_, pss_cons (ps_expr (pe_binit (by rfl) gB S (pa_cons (pv 0) (pa_cons pe_str pa_nil)))) (pss_one (ps_ost (pv 0) (pv 1))), ?_⟩)
  · obtain ⟨a, y, rfl, _⟩ := h
    rfl
  · obtain ⟨a, y, rfl, ha, q⟩ := h
    exact ⟨.ref a, rfl, a, C, [_], rfl, by show 1 ≤ 1000; decide, T, ha, y, rfl, .ref a, rfl, a, C, rfl, T, hno, .inl ⟨ha, fun dx nd ne => q dx nd ne⟩⟩
abbrev sNoName : Stmt := (inClass (topS 15) 0)
theorem scNoName : FnScope ["self", "at"] ["self", "at"] (defScope sNoName) := ⟨rfl, rfl, rfl, by decide +kernel, rfl, by decide +kernel, by decide +kernel⟩
theorem ok_NoName (D : Fun K "__init__" "NoName.__init__" sNoName f fd) (T : OexC K C) (hno : PySem.W.findIn K (.ref C) "at" = some none) (gB : mg "SmithError" = some (.ref B)) (S : SupC K B) : FnOk P w K mg base CX0 1 f fd ["self", "at"] (spIn C) := by
  refine D.ok scNoName (fun vs H Q E h => ?_) (fun cdv A outer s H vs Q E hr h => ⟨_, pss_cons (ps_expr (pe_binit (by rfl) gB S (pa_cons (pv 0) (pa_cons pe_str pa_nil)))) (pss_one (ps_ost (pv 0) (pv 1))), ?_⟩)
  · obtain ⟨a, y, rfl, _⟩ := h
    rfl
  · obtain ⟨a, y, rfl, ha, q⟩ := h
    exact ⟨.ref a, rfl, a, C, [_], rfl, by show 1 ≤ 1000; decide, T, ha, y, rfl, .ref a, rfl, a, C, rfl, T, hno, .inl ⟨ha, fun dx nd ne => q dx nd ne⟩⟩
abbrev sUnfit : Stmt := (inClass (topS 16) 0)
theorem scUnfit : FnScope ["self", "at"] ["self", "at"] (defScope sUnfit) := ⟨rfl, rfl, rfl, by decide +kernel, rfl, by decide +kernel, by decide +kernel⟩
theorem ok_Unfit (D : Fun K "__init__" "Unfit.__init__" sUnfit f fd) (T : OexC K C) (hno : PySem.W.findIn K (.ref C) "at" = some none) (gB : mg "SmithError" = some (.ref B)) (S : SupC K B) : FnOk P w K mg base CX0 1 f fd ["self", "at"] (spIn C) := by
  refine D.ok scUnfit (fun vs H Q E h => ?_) (fun cdv A outer s H vs Q E hr h => ⟨_, pss_cons (ps_expr (pe_binit (by rfl) gB S (pa_cons (pv 0) (pa_cons pe_str pa_nil)))) (pss_one (ps_ost (pv 0) (pv 1))), ?_⟩)
  · obtain ⟨a, y, rfl, _⟩ := h
    rfl
  · obtain ⟨a, y, rfl, ha, q⟩ := h
    exact ⟨.ref a, rfl, a, C, [_], rfl, by show 1 ≤ 1000; decide, T, ha, y, rfl, .ref a, rfl, a, C, rfl, T, hno, .inl ⟨ha, fun dx nd ne => q dx nd ne⟩⟩
abbrev sLeft : Stmt := (inClass (topS 17) 0)
theorem scLeft : FnScope ["self", "at", "goals"] ["self", "at", "goals"] (defScope sLeft) := ⟨rfl, rfl, rfl, by decide +kernel, rfl, by decide +kernel, by decide +kernel⟩
theorem ok_Left (D : Fun K "__init__" "Left.__init__" sLeft f fd) (T : OexC K C) (hno : PySem.W.findIn K (.ref C) "at" = some none) (hng : PySem.W.findIn K (.ref C) "goals" = some none) (gB : mg "SmithError" = some (.ref B)) (S : SupC K B) : FnOk P w K mg base CX0 1 f fd ["self", "at", "goals"] (spLeft C) := by
  refine D.ok scLeft (fun vs H Q E h => ?_) (fun cdv A outer s H vs Q E hr h => ⟨_, pss_cons (ps_expr (pe_binit (by rfl) gB S (pa_cons (pv 0) (pa_cons pe_str pa_nil)))) (pss_cons (ps_ost (pv 0) (pv 1)) (pss_one (ps_ost (pv 0) (pv 2)))), ?_⟩)
  · obtain ⟨a, y, z, rfl, _⟩ := h
    rfl
  · obtain ⟨a, y, z, rfl, ha, q⟩ := h
    exact ⟨.ref a, rfl, a, C, [_], rfl, by show 1 ≤ 1000; decide, T, ha, y, rfl, .ref a, rfl, a, C, rfl, T, hno, .inl ⟨ha, fun dx nd ne => ⟨z, rfl, .ref a, rfl, a, C, rfl, T, hng, .inr ⟨dx, [("at", y)], upd_same, by rw [upd_ne ne, upd_same], by show 1 ≤ 900; decide, q dx nd ne⟩⟩⟩⟩
end
end Wr
/-! exceptions with what they hold. -/
namespace Ly
open PySem L2 Wr
abbrev AtP := Hp → Addr → Prop
def Upw (P : AtP) : Prop := ∀ F F1 a, Same F F1 → P F a → P F1 a
def Pl (C : Addr) : AtP := fun F a => F a = some (ExO (.ref C) a)
def Fd (C : Addr) (fs : List (Str × V)) : AtP := fun F a => ∃ d, F a = some (exo a C (some d)) ∧ F d = some (exd d fs)
theorem upw_pl {C : Addr} : Upw (Pl C) := fun _ _ _ s h => s _ _ h
theorem upw_fd {C : Addr} {fs : List (Str × V)} : Upw (Fd C fs) := fun _ _ _ s ⟨d, h, k⟩ => ⟨d, s _ _ h, s _ _ k⟩
inductive Alls (F : Hp) : List Addr → List AtP → Prop
  | nil : Alls F [] []
  | cons {a : Addr} {P : AtP} {as : List Addr} {Ps : List AtP} : Upw P → P F a → Alls F as Ps → Alls F (a :: as) (P :: Ps)
section
variable {K : PySem.W.Frag} {F H F1 H1 : Hp} {σ : L2.St} {a D c C : Addr} {te ta tb : TE} {tr : TA} {d : PyData} {P : AtP} {Ps : List AtP}
theorem Alls.at (s : Same F F1) : ∀ {as : List Addr} {Ps : List AtP}, Alls F as Ps → Alls F1 as Ps
  | _, _, .nil => .nil
  | _, _, .cons u h t => .cons u (u _ _ _ s h) (Alls.at s t)
theorem Alls.app : ∀ {as bs : List Addr} {Ps Qs : List AtP}, Alls F as Ps → Alls F bs Qs → Alls F (as ++ bs) (Ps ++ Qs)
  | _, _, _, _, .nil, t => t
  | _, _, _, _, .cons u h t, r => .cons u h (Alls.app t r)
def EP1 (te : TE) (σ : L2.St) (F H : Hp) (P : AtP) : Prop := Upw P ∧ ∀ F1 H1, Bx F H F1 H1 → ∀ Q : VK, (∀ a F2 H2, Gr [] F1 H1 F2 H2 → P F2 a → Q (.ref a) H2) → te σ H1 Q
def EPs (tr : TA) (σ : L2.St) (F H : Hp) (Ps : List AtP) : Prop := ∀ F1 H1, Bx F H F1 H1 → ∀ Q : List V → Hp → Prop, (∀ as F2 H2, Gr [] F1 H1 F2 H2 → Alls F2 as Ps → Q (as.map V.ref) H2) → tr σ H1 Q
theorem eps_nil : EPs tNil σ F H [] := fun F1 H1 g Q q => q [] F1 H1 (.refl g.fh) .nil
theorem eps_cons (ha : EP1 te σ F H P) (hr : EPs tr σ F H Ps) : EPs (tCons te tr) σ F H (P :: Ps) := fun F1 H1 g Q q =>
  ha.2 F1 H1 g _ fun a F2 H2 g2 x => hr F2 H2 (g.tr g2) _ fun as F3 H3 g3 xs => q (a :: as) F3 H3 (g2.tr g3) (.cons ha.1 (ha.1 _ _ _ g3.ff x) xs)
theorem ep_new (ha : ED K ta σ F H d) : EP1 (fun σ H Q => ta σ H fun _ H1 => ∀ a, H1 a = none → Q (.ref a) (upd H1 a (ExO (.ref C) a))) σ F H (Pl C) :=
  ⟨upw_pl, fun F1 H1 g Q q => ha F1 H1 g _ fun v F2 H2 g2 r a na => q a _ _ (g2.tr ((Gr.refl g2.fh).new na)) upd_same⟩
/-- what is made stands still from now on -/
theorem gr_made {fs : List (Str × V)} {o : HO} (s : Same F H) {a dx : Addr} (na : H a = none) (nd : H dx = none) (ne : dx ≠ a) {H' : Hp} (h1 : H' a = some (exo a C (some dx))) (h2 : H' dx = some (exd dx fs)) (h3 : ∀ b, b ≠ a → b ≠ dx → H' b = H b) : ∃ F2, Gr [] F H F2 H' ∧ Fd C fs F2 a := by
  have fa : F a = none := same_none s na
  have fd : F dx = none := same_none s nd
  refine ⟨upd (upd F a (exo a C (some dx))) dx (exd dx fs), ⟨fun b u e => ?_, fun b u e => ?_, fun b u _ e => ?_, fun b u e => ?_, fun b e => ?_⟩, dx, ?_, upd_same⟩
  · rw [upd_ne (ne_some fd e), upd_ne (ne_some fa e)]; exact e
  · by_cases c1 : b = dx
    · subst c1; rw [upd_same] at e; rw [← e]; exact h2
    · rw [upd_ne c1] at e
      by_cases c2 : b = a
      · subst c2; rw [upd_same] at e; rw [← e]; exact h1
      · rw [upd_ne c2] at e; rw [h3 b c2 c1]; exact s b u e
  · rw [h3 b (ne_some na e) (ne_some nd e)]; exact e
  · by_cases c1 : b = dx
    · subst c1; exact .inr nd
    · rw [upd_ne c1] at e
      by_cases c2 : b = a
      · subst c2; exact .inr na
      · rw [upd_ne c2] at e; exact .inl e
  · by_cases c2 : b = a
    · subst c2; exact na
    · by_cases c1 : b = dx
      · subst c1; exact nd
      · rw [← h3 b c2 c1]; exact e
  · rw [upd_ne (Ne.symm ne), upd_same]
/-- C(y), C's __init__ keeping y as at -/
theorem ep_in {i : Nat} {y : V} (hi : σ[i]? = some (some y)) : EP1 (tMkV C (spIn C) (tCons (tVar i) tNil)) σ F H (Fd C [("at", y)]) :=
  ⟨upw_fd, fun F1 H1 g Q q => ⟨y, hi, by show 1 ≤ 1000; decide, fun a na => ⟨a, y, rfl, upd_same, fun dx nd ne => ⟨rfl, by
    have ndx : H1 dx = none := by rw [upd_ne ne] at nd; exact nd
    obtain ⟨F2, g2, p⟩ := gr_made (C := C) (fs := [("at", y)]) (o := exd dx []) g.fh na ndx ne (H' := upd (upd (upd H1 a (exo a C none)) dx (exd dx [("at", y)])) a (exo a C (some dx))) upd_same (by rw [upd_ne ne, upd_same]) (fun b h1 h2 => by rw [upd_ne h1, upd_ne h2, upd_ne h1])
    exact q a F2 _ g2 p⟩⟩⟩⟩
theorem ep_left {i j : Nat} {y z : V} (hi : σ[i]? = some (some y)) (hj : σ[j]? = some (some z)) : EP1 (tMkV C (spLeft C) (tCons (tVar i) (tCons (tVar j) tNil))) σ F H (Fd C [("goals", z), ("at", y)]) :=
  ⟨upw_fd, fun F1 H1 g Q q => ⟨y, hi, z, hj, by show 2 ≤ 1000; decide, fun a na => ⟨a, y, z, rfl, upd_same, fun dx nd ne => ⟨rfl, by
    have ndx : H1 dx = none := by rw [upd_ne ne] at nd; exact nd
    obtain ⟨F2, g2, p⟩ := gr_made (C := C) (fs := [("goals", z), ("at", y)]) (o := exd dx []) g.fh na ndx ne (H' := upd (upd (upd (upd H1 a (exo a C none)) dx (exd dx [("at", y)])) a (exo a C (some dx))) dx (exd dx [("goals", z), ("at", y)])) (by rw [upd_ne (Ne.symm ne), upd_same]) upd_same (fun b h1 h2 => by rw [upd_ne h2, upd_ne h1, upd_ne h2, upd_ne h1])
    exact q a F2 _ g2 p⟩⟩⟩⟩
end
end Ly
namespace Wr
open PySem PySem.Spec PyProof.Rows L2 Ly
def nm : Nat → Str
  | 0 => "NoGround"
  | 1 => "NoText"
  | 2 => "NoData"
  | 3 => "TooMany"
  | 4 => "TooFar"
  | 5 => "NoRule"
  | 6 => "NoGoal"
  | 7 => "Fails"
  | 8 => "NotFalling"
  | 9 => "NoRewrite"
  | 10 => "NoRow"
  | 11 => "BadText"
  | 12 => "Taken"
  | 13 => "NoName"
  | 14 => "Unfit"
  | 15 => "Left"
  | _ => "SmithError"
/-- the seventeen classes: the sixteen, and SmithError -/
structure Tx (K : PySem.W.Frag) (mg : Str → Option Value) (c : Nat → Addr) : Prop where
  gl : ∀ i, i ≤ 16 → mg (nm i) = some (.ref (c i))
  xc : ∀ i, i ≤ 16 → ExcC K (c i)
  kt : ∀ i j, i ≤ 16 → j < 16 → PySem.W.kitOne K (.ref (c i)) (.ref (c j)) = some (i == j)
  ks : ∀ i, i ≤ 16 → PySem.W.kitOne K (.ref (c i)) (.ref (c 16)) = some true
  kv : ∀ i, i ≤ 16 → PySem.W.kitOne K (.ref (c i)) (.type "ValueError") = some true
abbrev sSo : Stmt := (topS 19)
theorem scSo : FnScope ["_law_e", "_law_some"] ["_law_e"] (defScope sSo) := ⟨rfl, rfl, rfl, by decide +kernel, rfl, by decide +kernel, by decide +kernel⟩
def tSo (K : PySem.W.Frag) (c : Nat → Addr) : TS :=
  (tSeq (tAsg (tLst (tCons (tCB (rIsV K) (tCons (tVar 0) (tCons (tC (.ref (c 0))) tNil))) (tCons (tCB (rIsV K) (tCons (tVar 0) (tCons (tC (.ref (c 1))) tNil))) (tCons (tCB (rIsV K) (tCons (tVar 0) (tCons (tC (.ref (c 2))) tNil))) (tCons (tCB (rIsV K) (tCons (tVar 0) (tCons (tC (.ref (c 3))) tNil))) tNil))))) (gName 1))
  (tSeq (tAsg (tOp rCat (tVar 1) (tLst (tCons (tCB (rIsV K) (tCons (tVar 0) (tCons (tC (.ref (c 4))) tNil))) (tCons (tCB (rIsV K) (tCons (tVar 0) (tCons (tC (.ref (c 5))) tNil))) (tCons (tCB (rIsV K) (tCons (tVar 0) (tCons (tC (.ref (c 6))) tNil))) (tCons (tCB (rIsV K) (tCons (tVar 0) (tCons (tC (.ref (c 7))) tNil))) tNil)))))) (gName 1))
  (tSeq (tAsg (tOp rCat (tVar 1) (tLst (tCons (tCB (rIsV K) (tCons (tVar 0) (tCons (tC (.ref (c 8))) tNil))) (tCons (tCB (rIsV K) (tCons (tVar 0) (tCons (tC (.ref (c 9))) tNil))) (tCons (tCB (rIsV K) (tCons (tVar 0) (tCons (tC (.ref (c 10))) tNil))) (tCons (tCB (rIsV K) (tCons (tVar 0) (tCons (tC (.ref (c 11))) tNil))) tNil)))))) (gName 1))
  (tSeq (tAsg (tOp rCat (tVar 1) (tLst (tCons (tCB (rIsV K) (tCons (tVar 0) (tCons (tC (.ref (c 12))) tNil))) (tCons (tCB (rIsV K) (tCons (tVar 0) (tCons (tC (.ref (c 13))) tNil))) (tCons (tCB (rIsV K) (tCons (tVar 0) (tCons (tC (.ref (c 14))) tNil))) (tCons (tCB (rIsV K) (tCons (tVar 0) (tCons (tC (.ref (c 15))) tNil))) tNil)))))) (gName 1))
  (tRet (tVar 1))))))
def bls (i : Nat) : PyData := .list ((List.range 16).map fun j => .bool (i == j))
def spSorts (K : PySem.W.Frag) (c : Nat → Addr) : Sp := fun vs H Q _ => ∃ (a : Addr) (F : Hp) (i : Nat), vs = [.ref a] ∧ i ≤ 16 ∧ Same F H ∧ ExAt K F a (c i) ∧ ∀ v F1 H1, Gr [] F H F1 H1 → R K F1 v (bls i) → Q v H1
section
variable {P : Program} {w : World} {K : PySem.W.Frag} {mg : Str → Option Value} {base : Heap} {c : Nat → Addr}
theorem pure_So (T : Tx K mg c) (vs : List V) (H : Hp) (Q : VK) (E : XK) (h : spSorts K c vs H Q E) : tSo K c { nx := fun _ H' => Q .non H', rt := Q } (start ["_law_e", "_law_some"] vs) H := by
  obtain ⟨a, F, i, rfl, hi, sm, hx, q⟩ := h
  have one : ∀ (j : Nat) (hj : j < 16) (σ : L2.St) (F1 H1 : Hp), Same F F1 → σ[0]? = some (some (.ref a)) → ED K (tCB (rIsV K) (tCons (tVar 0) (tCons (tC (.ref (c j))) tNil))) σ F1 H1 (.bool (i == j)) := fun j hj σ F1 H1 s h => ed_isV h (exAt_up s hx) (T.xc i hi) (T.kt i j hi hj)
  refine q_set (K := K) (ed_lst (ea_cons (one 0 (by decide) _ _ _ (Same.refl F) rfl) (ea_cons (one 1 (by decide) _ _ _ (Same.refl F) rfl) (ea_cons (one 2 (by decide) _ _ _ (Same.refl F) rfl) (ea_cons (one 3 (by decide) _ _ _ (Same.refl F) rfl) ea_nil)))) (by simp)) sm fun v1 F1 H1 g1 r1 => ?_
  refine q_set (K := K) (ed_op (ed_var rfl r1) (ed_lst (ea_cons (one 4 (by decide) _ _ _ g1.ff rfl) (ea_cons (one 5 (by decide) _ _ _ g1.ff rfl) (ea_cons (one 6 (by decide) _ _ _ g1.ff rfl) (ea_cons (one 7 (by decide) _ _ _ g1.ff rfl) ea_nil)))) (by simp)) (rr_cat (by simp))) g1.fh fun v2 F2 H2 g2 r2 => ?_
  have s2 := g1.ff.trans g2.ff
  refine q_set (K := K) (ed_op (ed_var rfl r2) (ed_lst (ea_cons (one 8 (by decide) _ _ _ s2 rfl) (ea_cons (one 9 (by decide) _ _ _ s2 rfl) (ea_cons (one 10 (by decide) _ _ _ s2 rfl) (ea_cons (one 11 (by decide) _ _ _ s2 rfl) ea_nil)))) (by simp)) (rr_cat (by simp))) g2.fh fun v3 F3 H3 g3 r3 => ?_
  have s3 := s2.trans g3.ff
  refine q_set (K := K) (ed_op (ed_var rfl r3) (ed_lst (ea_cons (one 12 (by decide) _ _ _ s3 rfl) (ea_cons (one 13 (by decide) _ _ _ s3 rfl) (ea_cons (one 14 (by decide) _ _ _ s3 rfl) (ea_cons (one 15 (by decide) _ _ _ s3 rfl) ea_nil)))) (by simp)) (rr_cat (by simp))) g3.fh fun v4 F4 H4 g4 r4 => ?_
  exact ⟨v4, rfl, q v4 F4 H4 (((g1.tr g2).tr g3).tr g4) r4⟩
theorem ok_So {f : Addr} {fd : FuncData} {k : Nat} (D : Fun K "_law_sorts" "_law_sorts" sSo f fd) (T : Tx K mg c) (m_isinstance : mg "isinstance" = none) : FnOk P w K mg base CX0 (k + 1) f fd ["_law_e"] (spSorts K c) := by
  refine D.ok scSo (fun vs H Q E h => ?_) (fun cdv A outer s H vs Q E hr h => ⟨tSo K c, ?_, pure_So T vs H Q E h⟩)
  · obtain ⟨a, F, i, rfl, _⟩ := h
    rfl
  · exact (pss_cons (ps_set (i := 1) scSo.nd rfl (Or.inl rfl) (pe_lst (pa_cons (pe_callB call_isV (by rfl) m_isinstance (by decide +kernel) (pa_cons (pv 0) (pa_cons (pe_glob (v := .ref (c 0)) (by rfl) (T.gl 0 (by decide)) rfl) pa_nil))) (pa_cons (pe_callB call_isV (by rfl) m_isinstance (by decide +kernel) (pa_cons (pv 0) (pa_cons (pe_glob (v := .ref (c 1)) (by rfl) (T.gl 1 (by decide)) rfl) pa_nil))) (pa_cons (pe_callB call_isV (by rfl) m_isinstance (by decide +kernel) (pa_cons (pv 0) (pa_cons (pe_glob (v := .ref (c 2)) (by rfl) (T.gl 2 (by decide)) rfl) pa_nil))) (pa_cons (pe_callB call_isV (by rfl) m_isinstance (by decide +kernel) (pa_cons (pv 0) (pa_cons (pe_glob (v := .ref (c 3)) (by rfl) (T.gl 3 (by decide)) rfl) pa_nil))) pa_nil))))))
    (pss_cons (ps_set (i := 1) scSo.nd rfl (Or.inl rfl) (pe_op op_cat (pv 1) (pe_lst (pa_cons (pe_callB call_isV (by rfl) m_isinstance (by decide +kernel) (pa_cons (pv 0) (pa_cons (pe_glob (v := .ref (c 4)) (by rfl) (T.gl 4 (by decide)) rfl) pa_nil))) (pa_cons (pe_callB call_isV (by rfl) m_isinstance (by decide +kernel) (pa_cons (pv 0) (pa_cons (pe_glob (v := .ref (c 5)) (by rfl) (T.gl 5 (by decide)) rfl) pa_nil))) (pa_cons (pe_callB call_isV (by rfl) m_isinstance (by decide +kernel) (pa_cons (pv 0) (pa_cons (pe_glob (v := .ref (c 6)) (by rfl) (T.gl 6 (by decide)) rfl) pa_nil))) (pa_cons (pe_callB call_isV (by rfl) m_isinstance (by decide +kernel) (pa_cons (pv 0) (pa_cons (pe_glob (v := .ref (c 7)) (by rfl) (T.gl 7 (by decide)) rfl) pa_nil))) pa_nil)))))))
    (pss_cons (ps_set (i := 1) scSo.nd rfl (Or.inl rfl) (pe_op op_cat (pv 1) (pe_lst (pa_cons (pe_callB call_isV (by rfl) m_isinstance (by decide +kernel) (pa_cons (pv 0) (pa_cons (pe_glob (v := .ref (c 8)) (by rfl) (T.gl 8 (by decide)) rfl) pa_nil))) (pa_cons (pe_callB call_isV (by rfl) m_isinstance (by decide +kernel) (pa_cons (pv 0) (pa_cons (pe_glob (v := .ref (c 9)) (by rfl) (T.gl 9 (by decide)) rfl) pa_nil))) (pa_cons (pe_callB call_isV (by rfl) m_isinstance (by decide +kernel) (pa_cons (pv 0) (pa_cons (pe_glob (v := .ref (c 10)) (by rfl) (T.gl 10 (by decide)) rfl) pa_nil))) (pa_cons (pe_callB call_isV (by rfl) m_isinstance (by decide +kernel) (pa_cons (pv 0) (pa_cons (pe_glob (v := .ref (c 11)) (by rfl) (T.gl 11 (by decide)) rfl) pa_nil))) pa_nil)))))))
    (pss_cons (ps_set (i := 1) scSo.nd rfl (Or.inl rfl) (pe_op op_cat (pv 1) (pe_lst (pa_cons (pe_callB call_isV (by rfl) m_isinstance (by decide +kernel) (pa_cons (pv 0) (pa_cons (pe_glob (v := .ref (c 12)) (by rfl) (T.gl 12 (by decide)) rfl) pa_nil))) (pa_cons (pe_callB call_isV (by rfl) m_isinstance (by decide +kernel) (pa_cons (pv 0) (pa_cons (pe_glob (v := .ref (c 13)) (by rfl) (T.gl 13 (by decide)) rfl) pa_nil))) (pa_cons (pe_callB call_isV (by rfl) m_isinstance (by decide +kernel) (pa_cons (pv 0) (pa_cons (pe_glob (v := .ref (c 14)) (by rfl) (T.gl 14 (by decide)) rfl) pa_nil))) (pa_cons (pe_callB call_isV (by rfl) m_isinstance (by decide +kernel) (pa_cons (pv 0) (pa_cons (pe_glob (v := .ref (c 15)) (by rfl) (T.gl 15 (by decide)) rfl) pa_nil))) pa_nil)))))))
    (pss_one (ps_ret (pv 1)))))))
end
end Wr
namespace Wr
open PySem PySem.Spec PyProof.Rows L2 Ly
abbrev tExc (C : Addr) (ta : TE) : TE := fun σ H Q => ta σ H fun _ H1 => ∀ a, H1 a = none → Q (.ref a) (upd H1 a (ExO (.ref C) a))
abbrev bmV : List Value := [.type "ValueError", .type "Exception", .type "BaseException", .type "object"]
/-- how they are made; ini k: the place of the k-th's __init__ -/
structure Ux (K : PySem.W.Frag) (c ini : Nat → Addr) : Prop where
  xi : ∀ i, (i < 10 ∨ i = 16) → PySem.W.excIn K (c i) bmV "ValueError.__new__" = true
  kp : ∀ i, i ≤ 16 → PySem.W.keepIn K (.ref (c i)) = true
  ox : ∀ i, 10 ≤ i → i < 16 → OexC K (c i)
  ii : ∀ i, 10 ≤ i → i < 16 → PySem.W.findIn K (.ref (c i)) "__init__" = some (some (.ref (ini i)))
  ti : ∀ i, 10 ≤ i → i < 16 → PySem.W.typeIn K (.ref (ini i)) = some (.type "function")
abbrev sMd : Stmt := (topS 20)
theorem scMd : FnScope ["_law_number", "_law_goals", "_law_some"] ["_law_number", "_law_goals"] (defScope sMd) := ⟨rfl, rfl, rfl, by decide +kernel, rfl, by decide +kernel, by decide +kernel⟩
def tMd (K : PySem.W.Frag) (c : Nat → Addr) : TS :=
  (tSeq (tAsg (tLst (tCons (tExc (c 0) (tC (.str "a"))) (tCons (tExc (c 1) (tC (.str "a"))) (tCons (tExc (c 2) (tC (.str "a"))) (tCons (tExc (c 3) (tC (.str "a"))) (tCons (tExc (c 4) (tC (.str "a"))) (tCons (tExc (c 5) (tC (.str "a"))) (tCons (tExc (c 6) (tC (.str "a"))) (tCons (tExc (c 7) (tC (.str "a"))) tNil))))))))) (gName 2))
  (tSeq (tAsg (tOp rCat (tVar 2) (tLst (tCons (tExc (c 8) (tC (.str "a"))) (tCons (tExc (c 9) (tC (.str "a"))) (tCons (tMkV (c 10) (spIn (c 10)) (tCons (tVar 0) tNil)) (tCons (tMkV (c 11) (spIn (c 11)) (tCons (tVar 0) tNil)) (tCons (tMkV (c 12) (spIn (c 12)) (tCons (tVar 0) tNil)) (tCons (tMkV (c 13) (spIn (c 13)) (tCons (tVar 0) tNil)) tNil)))))))) (gName 2))
  (tRet (tOp rCat (tVar 2) (tLst (tCons (tMkV (c 14) (spIn (c 14)) (tCons (tVar 0) tNil)) (tCons (tMkV (c 15) (spLeft (c 15)) (tCons (tVar 0) (tCons (tVar 1) tNil))) tNil)))))))
/-- the sixteen, as they are made of y and z -/
def pr (c : Nat → Addr) (y z : V) : List AtP := ((List.range 10).map fun i => Pl (c i)) ++ ((List.range 5).map fun i => Fd (c (10 + i)) [("at", y)]) ++ [Fd (c 15) [("goals", z), ("at", y)]]
def spMade (K : PySem.W.Frag) (c : Nat → Addr) : Sp := fun vs H Q _ => ∃ (y z : V) (F : Hp), vs = [y, z] ∧ Same F H ∧ ∀ p as F1 H1, Gr [] F H F1 H1 → F1 p = some (.lst (as.map V.ref)) → Alls F1 as (pr c y z) → Q (.ref p) H1
section
variable {P : Program} {w : World} {K : PySem.W.Frag} {mg : Str → Option Value} {base : Heap} {c ini : Nat → Addr}
/-- a display of exceptions -/
theorem lst_eps {tr : TA} {σ : L2.St} {F H : Hp} {Ps : List AtP} (h : EPs tr σ F H Ps) (s : Same F H) (hz : Ps.length ≤ 1000) {Q : VK} (q : ∀ p as F1 H1, Gr [] F H F1 H1 → F1 p = some (.lst (as.map V.ref)) → Alls F1 as Ps → Q (.ref p) H1) : tLst tr σ H Q := by
  refine h F H (.refl s) _ fun as F1 H1 g1 al => ⟨?_, fun p np => ?_⟩
  · have e : ∀ {as : List Addr} {Ps : List AtP}, Alls F1 as Ps → as.length = Ps.length := by
      intro as Ps al
      induction al with
      | nil => rfl
      | cons _ _ _ ih => rw [List.length_cons, List.length_cons, ih]
    rw [List.length_map, e al]
    exact Nat.le_trans hz (by decide)
  · have g2 : Gr [] F1 H1 (upd F1 p (.lst (as.map V.ref))) (upd H1 p (.lst (as.map V.ref))) := (Gr.refl g1.fh).new np
    exact q p as _ _ (g1.tr g2) upd_same (al.at g2.ff)
theorem alls_len {F : Hp} : ∀ {as : List Addr} {Ps : List AtP}, Alls F as Ps → as.length = Ps.length
  | _, _, .nil => rfl
  | _, _, .cons _ _ t => by rw [List.length_cons, List.length_cons, alls_len t]
/-- xs + [..] of exceptions -/
theorem cat_eps {i : Nat} {tr : TA} {σ : L2.St} {F H : Hp} {Ps Qs : List AtP} {p0 : Addr} {bs : List Addr} (hi : σ[i]? = some (some (.ref p0))) (h0 : F p0 = some (.lst (bs.map V.ref))) (ab : Alls F bs Qs) (h : EPs tr σ F H Ps) (s : Same F H) (hz : Ps.length ≤ 1000) (hq : Qs.length ≤ 1000) {Q : VK}
    (q : ∀ p as F1 H1, Gr [] F H F1 H1 → F1 p = some (.lst (as.map V.ref)) → Alls F1 as (Qs ++ Ps) → Q (.ref p) H1) : tOp rCat (tVar i) (tLst tr) σ H Q := by
  refine ⟨.ref p0, hi, lst_eps h s hz fun p as F1 H1 g1 hp al => ?_⟩
  refine ⟨p0, p, bs.map V.ref, as.map V.ref, rfl, rfl, g1.fh _ _ (g1.ff _ _ h0), g1.fh _ _ hp, ?_, fun l nl => ?_⟩
  · rw [List.length_map, List.length_map, alls_len al, alls_len ab]
    exact Nat.le_trans (show _ ≤ 2000 by omega) (by decide)
  · rw [← List.map_append]
    have g2 : Gr [] F1 H1 (upd F1 l (.lst ((bs ++ as).map V.ref))) (upd H1 l (.lst ((bs ++ as).map V.ref))) := (Gr.refl g1.fh).new nl
    exact q l (bs ++ as) _ _ (g1.tr g2) upd_same (((ab.at g1.ff).app al).at g2.ff)
theorem q_lstE {i : Nat} {tr : TA} {σ : L2.St} {F H : Hp} {Ps : List AtP} {D : Ends} {tz : TS} (h : EPs tr σ F H Ps) (s : Same F H) (hz : Ps.length ≤ 1000) (q : ∀ p as F1 H1, Gr [] F H F1 H1 → F1 p = some (.lst (as.map V.ref)) → Alls F1 as Ps → tz D (σ.set i (some (.ref p))) H1) : tSeq (tAsg (tLst tr) (gName i)) tz D σ H :=
  lst_eps (Q := fun v H1 => tz D (σ.set i (some v)) H1) h s hz q
theorem q_catE {i j : Nat} {tr : TA} {σ : L2.St} {F H : Hp} {Ps Qs : List AtP} {p0 : Addr} {bs : List Addr} {D : Ends} {tz : TS} (hi : σ[i]? = some (some (.ref p0))) (h0 : F p0 = some (.lst (bs.map V.ref))) (ab : Alls F bs Qs) (h : EPs tr σ F H Ps) (s : Same F H) (hz : Ps.length ≤ 1000) (hq : Qs.length ≤ 1000)
    (q : ∀ p as F1 H1, Gr [] F H F1 H1 → F1 p = some (.lst (as.map V.ref)) → Alls F1 as (Qs ++ Ps) → tz D (σ.set j (some (.ref p))) H1) : tSeq (tAsg (tOp rCat (tVar i) (tLst tr)) (gName j)) tz D σ H :=
  cat_eps (Q := fun v H1 => tz D (σ.set j (some v)) H1) hi h0 ab h s hz hq q
theorem r_catE {i : Nat} {tr : TA} {σ : L2.St} {F H : Hp} {Ps Qs : List AtP} {p0 : Addr} {bs : List Addr} {D : Ends} (hi : σ[i]? = some (some (.ref p0))) (h0 : F p0 = some (.lst (bs.map V.ref))) (ab : Alls F bs Qs) (h : EPs tr σ F H Ps) (s : Same F H) (hz : Ps.length ≤ 1000) (hq : Qs.length ≤ 1000)
    (q : ∀ p as F1 H1, Gr [] F H F1 H1 → F1 p = some (.lst (as.map V.ref)) → Alls F1 as (Qs ++ Ps) → D.rt (.ref p) H1) : tRet (tOp rCat (tVar i) (tLst tr)) D σ H := cat_eps (Q := D.rt) hi h0 ab h s hz hq q
theorem pure_Md (vs : List V) (H : Hp) (Q : VK) (E : XK) (h : spMade K c vs H Q E) : tMd K c { nx := fun _ H' => Q .non H', rt := Q } (start ["_law_number", "_law_goals", "_law_some"] vs) H := by
  obtain ⟨y, z, F, rfl, sm, q⟩ := h
  refine q_lstE (Ps := (List.range 8).map fun i => Pl (c i)) (eps_cons (ep_new (K := K) (d := .str "a") ed_str) (eps_cons (ep_new (K := K) (d := .str "a") ed_str) (eps_cons (ep_new (K := K) (d := .str "a") ed_str) (eps_cons (ep_new (K := K) (d := .str "a") ed_str) (eps_cons (ep_new (K := K) (d := .str "a") ed_str) (eps_cons (ep_new (K := K) (d := .str "a") ed_str) (eps_cons (ep_new (K := K) (d := .str "a") ed_str) (eps_cons (ep_new (K := K) (d := .str "a") ed_str) eps_nil)))))))) sm (show 8 ≤ 1000 by decide) fun p1 as1 F1 H1 g1 h1 al1 => ?_
  refine q_catE (bs := as1) rfl h1 al1 (eps_cons (ep_new (K := K) (d := .str "a") ed_str) (eps_cons (ep_new (K := K) (d := .str "a") ed_str) (eps_cons (ep_in rfl) (eps_cons (ep_in rfl) (eps_cons (ep_in rfl) (eps_cons (ep_in rfl) eps_nil)))))) g1.fh (show 6 ≤ 1000 by decide) (show 8 ≤ 1000 by decide) fun p2 as2 F2 H2 g2 h2 al2 => ?_
  refine r_catE (bs := as2) rfl h2 al2 (eps_cons (ep_in rfl) (eps_cons (ep_left rfl rfl) eps_nil)) g2.fh (show 2 ≤ 1000 by decide) (show 14 ≤ 1000 by decide) fun p3 as3 F3 H3 g3 h3 al3 => ?_
  exact q p3 as3 F3 H3 ((g1.tr g2).tr g3) h3 al3
theorem ok_Md {f : Addr} {fd : FuncData} (D : Fun K "_law_made" "_law_made" sMd f fd) (T : Tx K mg c) (U : Ux K c ini) {fd10 : FuncData} (b10 : Binds K fd10 ["self", "at"] []) (G10 : FnOk P w K mg base CX0 1 (ini 10) fd10 ["self", "at"] (spIn (c 10))) {fd11 : FuncData} (b11 : Binds K fd11 ["self", "at"] []) (G11 : FnOk P w K mg base CX0 1 (ini 11) fd11 ["self", "at"] (spIn (c 11))) {fd12 : FuncData} (b12 : Binds K fd12 ["self", "at"] []) (G12 : FnOk P w K mg base CX0 1 (ini 12) fd12 ["self", "at"] (spIn (c 12))) {fd13 : FuncData} (b13 : Binds K fd13 ["self", "at"] []) (G13 : FnOk P w K mg base CX0 1 (ini 13) fd13 ["self", "at"] (spIn (c 13))) {fd14 : FuncData} (b14 : Binds K fd14 ["self", "at"] []) (G14 : FnOk P w K mg base CX0 1 (ini 14) fd14 ["self", "at"] (spIn (c 14))) {fd15 : FuncData} (b15 : Binds K fd15 ["self", "at", "goals"] []) (G15 : FnOk P w K mg base CX0 1 (ini 15) fd15 ["self", "at", "goals"] (spLeft (c 15))) : FnOk P w K mg base CX0 3 f fd ["_law_number", "_law_goals"] (spMade K c) := by
  refine D.ok scMd (fun vs H Q E h => ?_) (fun cdv A outer s H vs Q E hr h => ⟨tMd K c, ?_, pure_Md vs H Q E h⟩)
  · obtain ⟨y, z, F, rfl, _⟩ := h
    rfl
  · exact (pss_cons (ps_set (i := 2) scMd.nd rfl (Or.inl rfl) (pe_lst (pa_cons (pe_exc1 PySem.F.excBase_ValueError (U.xi 0 (by decide)) (T.gl 0 (by decide)) (U.kp 0 (by decide)) (by rfl) pe_str) (pa_cons (pe_exc1 PySem.F.excBase_ValueError (U.xi 1 (by decide)) (T.gl 1 (by decide)) (U.kp 1 (by decide)) (by rfl) pe_str) (pa_cons (pe_exc1 PySem.F.excBase_ValueError (U.xi 2 (by decide)) (T.gl 2 (by decide)) (U.kp 2 (by decide)) (by rfl) pe_str) (pa_cons (pe_exc1 PySem.F.excBase_ValueError (U.xi 3 (by decide)) (T.gl 3 (by decide)) (U.kp 3 (by decide)) (by rfl) pe_str) (pa_cons (pe_exc1 PySem.F.excBase_ValueError (U.xi 4 (by decide)) (T.gl 4 (by decide)) (U.kp 4 (by decide)) (by rfl) pe_str) (pa_cons (pe_exc1 PySem.F.excBase_ValueError (U.xi 5 (by decide)) (T.gl 5 (by decide)) (U.kp 5 (by decide)) (by rfl) pe_str) (pa_cons (pe_exc1 PySem.F.excBase_ValueError (U.xi 6 (by decide)) (T.gl 6 (by decide)) (U.kp 6 (by decide)) (by rfl) pe_str) (pa_cons (pe_exc1 PySem.F.excBase_ValueError (U.xi 7 (by decide)) (T.gl 7 (by decide)) (U.kp 7 (by decide)) (by rfl) pe_str) pa_nil))))))))))
    (pss_cons (ps_set (i := 2) scMd.nd rfl (Or.inl rfl) (pe_op op_cat (pv 2) (pe_lst (pa_cons (pe_exc1 PySem.F.excBase_ValueError (U.xi 8 (by decide)) (T.gl 8 (by decide)) (U.kp 8 (by decide)) (by rfl) pe_str) (pa_cons (pe_exc1 PySem.F.excBase_ValueError (U.xi 9 (by decide)) (T.gl 9 (by decide)) (U.kp 9 (by decide)) (by rfl) pe_str) (pa_cons (pe_mkV (U.ox 10 (by decide) (by decide)) (U.ii 10 (by decide) (by decide)) (U.ti 10 (by decide) (by decide)) G10 (hr.mono (by decide)) b10 pass0 (by rfl) (T.gl 10 (by decide)) (pa_cons (pv 0) pa_nil)) (pa_cons (pe_mkV (U.ox 11 (by decide) (by decide)) (U.ii 11 (by decide) (by decide)) (U.ti 11 (by decide) (by decide)) G11 (hr.mono (by decide)) b11 pass0 (by rfl) (T.gl 11 (by decide)) (pa_cons (pv 0) pa_nil)) (pa_cons (pe_mkV (U.ox 12 (by decide) (by decide)) (U.ii 12 (by decide) (by decide)) (U.ti 12 (by decide) (by decide)) G12 (hr.mono (by decide)) b12 pass0 (by rfl) (T.gl 12 (by decide)) (pa_cons (pv 0) pa_nil)) (pa_cons (pe_mkV (U.ox 13 (by decide) (by decide)) (U.ii 13 (by decide) (by decide)) (U.ti 13 (by decide) (by decide)) G13 (hr.mono (by decide)) b13 pass0 (by rfl) (T.gl 13 (by decide)) (pa_cons (pv 0) pa_nil)) pa_nil)))))))))
    (pss_one (ps_ret (pe_op op_cat (pv 2) (pe_lst (pa_cons (pe_mkV (U.ox 14 (by decide) (by decide)) (U.ii 14 (by decide) (by decide)) (U.ti 14 (by decide) (by decide)) G14 (hr.mono (by decide)) b14 pass0 (by rfl) (T.gl 14 (by decide)) (pa_cons (pv 0) pa_nil)) (pa_cons (pe_mkV (U.ox 15 (by decide) (by decide)) (U.ii 15 (by decide) (by decide)) (U.ti 15 (by decide) (by decide)) G15 (hr.mono (by decide)) b15 pass0 (by rfl) (T.gl 15 (by decide)) (pa_cons (pv 0) (pa_cons (pv 1) pa_nil))) pa_nil))))))))
end
end Wr
namespace Ly
open PySem L2 Wr
section
variable {K : PySem.W.Frag} {F H F1 H1 : Hp} {σ : L2.St} {a C : Addr} {te ta tb : TE} {tt : TT} {tr : TA} {d e : PyData} {ds : List PyData} {v : V} {D : Ends} {tz tu : TS}
/-- evaluates to just v, changing nothing -/
def EV (te : TE) (σ : L2.St) (F H : Hp) (v : V) : Prop := ∀ F1 H1, Bx F H F1 H1 → ∀ Q : VK, Q v H1 → te σ H1 Q
theorem ev_var {i : Nat} (h : σ[i]? = some (some v)) : EV (tVar i) σ F H v := fun F1 H1 g Q q => ⟨v, h, q⟩
theorem ev_ix {i : Nat} {p : Addr} {xs : List V} {k : Nat} (h : σ[i]? = some (some (.ref p))) (hp : F p = some (.lst xs)) (hk : EV tb σ F H (.int k)) (hx : xs[k]? = some v) : EV (tOp (rIxL K) (tVar i) tb) σ F H v := fun F1 H1 g Q q =>
  ⟨.ref p, h, hk F1 H1 g _ ⟨p, xs, k, v, rfl, rfl, .inl (.inl (g.fh _ _ (g.ff _ _ hp))), atI_nat hx, q⟩⟩
theorem ev_c : EV (tC v) σ F H v := fun F1 H1 g Q q => q
theorem ed_isX {D : Addr} {c : V} {cv : Value} {b : Bool} (h : EV te σ F H (.ref a)) (hx : ExAt K F a D) (T : ExcC K D) (hc : ∀ u, RelV c u → u = cv) (k : PySem.W.kitOne K (.ref D) cv = some b) : ED K (tCB (rIsV K) (tCons te (tCons (tC c) tNil))) σ F H (.bool b) := fun F1 H1 g Q q =>
  h F1 H1 g _ ⟨a, D, c, cv, b, rfl, exAt_up (g.ff.trans g.fh) hx, T, hc, k, q (.bl b) F1 H1 (.refl g.fh) (.bl b)⟩
theorem ed_xv {n : Str} {fs : List (Str × V)} (h : EV te σ F H (.ref a)) (T : XfC K C) (hn : PySem.W.findIn K (.ref C) n = some none) (f : Fd C fs F a) (l : fs.lookup n = some v) (r : R K F v d) : ED K (tXv K n te) σ F H d := fun F1 H1 g Q q => by
  obtain ⟨dx, h1, h2⟩ := f
  exact h F1 H1 g _ ⟨a, C, dx, fs, v, rfl, T, hn, g.fh _ _ (g.ff _ _ h1), g.fh _ _ (g.ff _ _ h2), l, q v F1 H1 (.refl g.fh) (r.at g.ff)⟩
theorem ed_isi {c : String} {b : Bool} (h : ED K te σ F H d) (hb : kitB (tyD d) c = some b) : ED K (tCB (rIsi K) (tCons te (tCons (tC (.ty c)) tNil))) σ F H (.bool b) := fun F1 H1 g Q q =>
  h F1 H1 g _ fun v F2 H2 g2 r => ⟨v, .ty c, .type (tyD d), .type c, b, rfl, .ty c, r.ty g2.fh, kit_ty hb, q (.bl b) F2 H2 g2 (.bl b)⟩
theorem ed_and {a b : Bool} (h1 : ED K ta σ F H (.bool a)) (h2 : a = true → ED K tb σ F H (.bool b)) : ED K (tAndV ta tb) σ F H (.bool (a && b)) := fun F1 H1 g Q q => h1 F1 H1 g _ fun v F2 H2 g2 r => ⟨a, r.asBl, by
  cases a
  · exact iteF (q _ F2 H2 g2 (.bl false))
  · exact iteT (h2 rfl F2 H2 (g.tr g2) Q fun u F3 H3 g3 r3 => q u F3 H3 (g2.tr g3) r3)⟩
theorem ed_slL {tl th : TO} {lo hi : Option Int} (h : ED K te σ F H (.list ds)) (h1 : EO tl σ F H lo) (h2 : EO th σ F H hi) : ED K (tSl (rSlL K) te tl th) σ F H (.list (cutD ds lo hi)) := fun F1 H1 g Q q =>
  h F1 H1 g _ fun v F2 H2 g2 r => h1 F2 H2 (g.tr g2) _ fun F3 H3 g3 => h2 F3 H3 ((g.tr g2).tr g3) _ fun F4 H4 g4 => by
    obtain ⟨a, xs, rfl, hs, ra⟩ := r.asLst
    refine ⟨a, xs, rfl, .inl (.inl (g4.fh _ _ (g4.ff _ _ (g3.ff _ _ hs)))), fun p np => ?_⟩
    have g5 : Gr [] F4 H4 (upd F4 p (.lst (cutV xs lo hi))) (upd H4 p (.lst (cutV xs lo hi))) := (Gr.refl g4.fh).new np
    exact q (.ref p) _ _ (((g2.tr g3).tr g4).tr g5) (.lst upd_same (((((ra.at g3.ff).at g4.ff).cut lo hi)).at g5.ff))
theorem rr_neI {i j : Int} : RR K rNe F H (.int i) (.int j) (.bool (!decide (i = j))) := fun F1 H1 g u v r1 r2 Q q => by
  cases r1.asInt
  cases r2.asInt
  refine ⟨rfl, ?_⟩
  rw [show decide (V.int i = V.int j) = decide (i = j) by simp]
  exact q _ F1 H1 (.refl g.fh) (.bl _)
theorem s_when {b : Bool} (h : EB tt σ F H b) (s : Same F H) (h1 : b = true → ∀ F1 H1, Gr [] F H F1 H1 → tu D σ H1) (h2 : b = false → ∀ F1 H1, Gr [] F H F1 H1 → D.nx σ H1) : tIfS tt tu tNext D σ H := h.go s fun F1 H1 g => by
  cases b
  · exact iteF (h2 rfl F1 H1 g)
  · exact iteT (h1 rfl F1 H1 g)
theorem q_ifset {i : Nat} {b : Bool} {n0 n1 : Int} (hb : EB tt σ F H b) (s : Same F H) (hd : ED K te σ F H (.int n1)) (h0 : σ[i]? = some (some (.int n0))) (k : ∀ n F1 H1, Gr [] F H F1 H1 → tz D (σ.set i (some (.int n))) H1) : tSeq (tIfS tt (tAsg te (gName i)) tNext) tz D σ H := by
  refine q_when hb s (fun _ F1 H1 g1 => ?_) fun _ F1 H1 g1 => ?_
  · refine (hd.up (H1 := H1) g1.ff).go g1.fh fun v F2 H2 g2 r => ?_
    cases r.asInt
    exact k n1 F2 H2 (g1.tr g2)
  · have e : σ.set i (some (.int n0)) = σ := by
      apply List.ext_getElem?
      intro j
      rw [List.getElem?_set]
      by_cases c : i = j
      · subst c
        rw [h0]
        obtain ⟨hl, _⟩ := List.getElem?_eq_some_iff.mp h0
        simp [hl]
      · simp [c]
    have := k n0 F1 H1 g1
    rw [e] at this
    exact this
theorem Alls.get : ∀ {as : List Addr} {Ps : List AtP} {i : Nat} {P : AtP}, Alls F as Ps → Ps[i]? = some P → ∃ a, as[i]? = some a ∧ P F a
  | _, _, _, _, .nil, e => by simp at e
  | _, _, 0, _, .cons _ h _, e => by
    simp only [List.getElem?_cons_zero, Option.some.injEq] at e
    subst e
    exact ⟨_, rfl, h⟩
  | _, _, i + 1, _, .cons _ _ t, e => by
    obtain ⟨a, h1, h2⟩ := Alls.get (i := i) t (by simpa using e)
    exact ⟨a, by simpa using h1, h2⟩
end
end Ly
namespace Wr
open PySem PySem.Spec PyProof.Rows L2 Ly
structure Df (K : PySem.W.Frag) (mg : Str → Option Value) (x : Str) (st : Stmt) (ps : List Str) (f : Addr) (fd : FuncData) : Prop where
  F : Fun K x x st f fd
  g : mg x = some (.ref f)
  b : Binds K fd ps []
theorem df_mk {K : PySem.W.Frag} {h : Heap} {mg : Str → Option Value} {x : Str} {st : Stmt} {ps : List Str} {f : Addr} {od an : Option Addr} {sl : Array (Option Value)} {oc kV dc pm cd ct : Value} (X : K.In h) (G : h.Ns mainGlobals mg)
    (a : PySem.W.nsIn K mainGlobals x = some (some (.ref f))) (l : K.lookup f = some ⟨oc, od, .func (PySem.W.fnOf x x (defArgs st) (defBody st) (defScope st) .none kV dc pm an cd ct), sl⟩) (c : PySem.W.codeIn K cd x = true) (k : PySem.W.keepIn K (.ref f) = true)
    (b : ∀ fd, Fun K x x st f fd → Binds K fd ps []) : Df K mg x st ps f (PySem.W.fnOf x x (defArgs st) (defBody st) (defScope st) .none kV dc pm an cd ct) :=
  ⟨fun_mk (st := st) l c k, PySem.W.mg_of X G a, b _ (fun_mk (st := st) l c k)⟩
abbrev sLaw : Stmt := (topS 21)
theorem scLaw : FnScope ["_law_script", "_law_cell", "_law_number", "_law_goals", "_law_some", "_law_k", "_law_e", "_law_j"] ["_law_script"] (defScope sLaw) := ⟨rfl, rfl, rfl, by decide +kernel, rfl, by decide +kernel, by decide +kernel⟩
def tLaw (K : PySem.W.Frag) (c : Nat → Addr) : TS :=
  (tSeq (tAsg (tCB (rSum K) (tCons (tSl (rSlL K) (tVar 0) tNoPart (tPart (tC (.int 1)))) tNil)) (gName 1))
  (tSeq (tAsg (tOp (rI (fun _ j => 0 < j) fun i j => .int (i % j)) (tOp (rI CDiv fun i j => .int (i / j)) (tVar 1) (tC (.int 2))) (tC (.int 41))) (gName 2))
  (tSeq (tIfS (tTest (tOp rEq (tOp (rI (fun _ j => 0 < j) fun i j => .int (i % j)) (tVar 1) (tC (.int 2))) (tC (.int 1)))) (tAsg (tOp (rI (fun _ j => 0 < j) fun i j => .int (i % j)) (tOp (rI CDiv fun i j => .int (i / j)) (tVar 1) (tC (.int 2))) (tOp (rI CPow fun i j => .int (i ^ j.toNat)) (tC (.int 10)) (tC (.int 60)))) (gName 2)) tNext)
  (tSeq (tAsg (tSl (rSlL K) (tLst (tCons (tTup (tCons (tTup tNil) (tCons (tTup (tCons (tC (.str "no")) tNil)) tNil))) (tCons (tTup (tCons (tTup (tCons (tTup (tCons (tC (.str "no")) tNil)) tNil)) (tCons (tTup (tCons (tC (.str "not")) (tCons (tTup (tCons (tC (.str "no")) tNil)) tNil))) tNil))) tNil))) tNoPart (tPart (tOp (rI (fun _ j => 0 < j) fun i j => .int (i % j)) (tOp (rI CDiv fun i j => .int (i / j)) (tVar 1) (tC (.int 4))) (tC (.int 3))))) (gName 3))
  (tSeq (tAsg (tCall (spMade K c) [] E0 (tCons (tVar 2) (tCons (tVar 3) tNil))) (gName 4))
  (tSeq (tFor (iRng1 (tCons (tC (.int 16)) tNil)) (gName 5) (tSeq (tIfS (tTest (tOp (rNeD K) (tCall (spSorts K c) [] E0 (tCons (tOp (rIxL K) (tVar 4) (tVar 5)) tNil)) (tLc (iRng1 (tCons (tC (.int 16)) tNil)) (gName 7) tYes (tOp rEq (tVar 5) (tVar 7)) [7]))) (tRet (tC (.bl false))) tNext)
  (tIfS (tOr (tNot (tB (tCB (rIsV K) (tCons (tOp (rIxL K) (tVar 4) (tVar 5)) (tCons (tC (.ref (c 16))) tNil))))) (tNot (tB (tCB (rIsV K) (tCons (tOp (rIxL K) (tVar 4) (tVar 5)) (tCons (tC (.ty "ValueError")) tNil)))))) (tRet (tC (.bl false))) tNext)))
  (tSeq (tFor (iList K (tLst (tCons (tOp (rIxL K) (tVar 4) (tC (.int 10))) (tCons (tOp (rIxL K) (tVar 4) (tC (.int 11))) (tCons (tOp (rIxL K) (tVar 4) (tC (.int 12))) (tCons (tOp (rIxL K) (tVar 4) (tC (.int 13))) (tCons (tOp (rIxL K) (tVar 4) (tC (.int 14))) (tCons (tOp (rIxL K) (tVar 4) (tC (.int 15))) tNil)))))))) (gName 6) (tIfS (tOr (tTest (tOp rNe (tXv K "at" (tVar 6)) (tVar 2))) (tB (tCB (rIsi K) (tCons (tXv K "at" (tVar 6)) (tCons (tC (.ty "bool")) tNil))))) (tRet (tC (.bl false))) tNext))
  (tRet (tAndV (tOp (rEqD K) (tXv K "goals" (tOp (rIxL K) (tVar 4) (tC (.int 15)))) (tVar 3)) (tOp (rIn K true) (tC (.bl true)) (tCall (spSorts K c) [] E0 (tCons (tExc (c 16) (tC (.str "a"))) tNil))))))))))))
def spLaw (K : PySem.W.Frag) : Sp := fun vs H Q _ => ∃ (a : Addr) (ns : List Int), vs = [.ref a] ∧ SqL K H a (ns.map V.int) ∧ ns.length ≤ 63 ∧ ∀ H', Q (.bl true) H'
/-- the fields -/
structure Fx (K : PySem.W.Frag) (c : Nat → Addr) : Prop where
  xf : ∀ i, 10 ≤ i → i < 16 → XfC K (c i)
  na : ∀ i, 10 ≤ i → i < 16 → PySem.W.findIn K (.ref (c i)) "at" = some none
  ng : PySem.W.findIn K (.ref (c 15)) "goals" = some none
section
variable {P : Program} {w : World} {K : PySem.W.Frag} {mg : Str → Option Value} {base : Heap} {c ini : Nat → Addr}
theorem to16 {i : Nat} (h : i < 16) : i = 0 ∨ i = 1 ∨ i = 2 ∨ i = 3 ∨ i = 4 ∨ i = 5 ∨ i = 6 ∨ i = 7 ∨ i = 8 ∨ i = 9 ∨ i = 10 ∨ i = 11 ∨ i = 12 ∨ i = 13 ∨ i = 14 ∨ i = 15 := by omega
theorem pr_at {F : Hp} {as : List Addr} {y z : V} (al : Alls F as (pr c y z)) {i : Nat} (hi : i < 16) : ∃ a, as[i]? = some a ∧ ExAt K F a (c i) := by
  rcases to16 hi with rfl | rfl | rfl | rfl | rfl | rfl | rfl | rfl | rfl | rfl | rfl | rfl | rfl | rfl | rfl | rfl
  · obtain ⟨a, h1, h2⟩ := al.get (i := 0) rfl
    exact ⟨a, h1, .inl h2⟩
  · obtain ⟨a, h1, h2⟩ := al.get (i := 1) rfl
    exact ⟨a, h1, .inl h2⟩
  · obtain ⟨a, h1, h2⟩ := al.get (i := 2) rfl
    exact ⟨a, h1, .inl h2⟩
  · obtain ⟨a, h1, h2⟩ := al.get (i := 3) rfl
    exact ⟨a, h1, .inl h2⟩
  · obtain ⟨a, h1, h2⟩ := al.get (i := 4) rfl
    exact ⟨a, h1, .inl h2⟩
  · obtain ⟨a, h1, h2⟩ := al.get (i := 5) rfl
    exact ⟨a, h1, .inl h2⟩
  · obtain ⟨a, h1, h2⟩ := al.get (i := 6) rfl
    exact ⟨a, h1, .inl h2⟩
  · obtain ⟨a, h1, h2⟩ := al.get (i := 7) rfl
    exact ⟨a, h1, .inl h2⟩
  · obtain ⟨a, h1, h2⟩ := al.get (i := 8) rfl
    exact ⟨a, h1, .inl h2⟩
  · obtain ⟨a, h1, h2⟩ := al.get (i := 9) rfl
    exact ⟨a, h1, .inl h2⟩
  · obtain ⟨a, h1, d, h2, h3⟩ := al.get (i := 10) rfl
    exact ⟨a, h1, .inr (.inr ⟨d, _, h2, h3⟩)⟩
  · obtain ⟨a, h1, d, h2, h3⟩ := al.get (i := 11) rfl
    exact ⟨a, h1, .inr (.inr ⟨d, _, h2, h3⟩)⟩
  · obtain ⟨a, h1, d, h2, h3⟩ := al.get (i := 12) rfl
    exact ⟨a, h1, .inr (.inr ⟨d, _, h2, h3⟩)⟩
  · obtain ⟨a, h1, d, h2, h3⟩ := al.get (i := 13) rfl
    exact ⟨a, h1, .inr (.inr ⟨d, _, h2, h3⟩)⟩
  · obtain ⟨a, h1, d, h2, h3⟩ := al.get (i := 14) rfl
    exact ⟨a, h1, .inr (.inr ⟨d, _, h2, h3⟩)⟩
  · obtain ⟨a, h1, d, h2, h3⟩ := al.get (i := 15) rfl
    exact ⟨a, h1, .inr (.inr ⟨d, _, h2, h3⟩)⟩
theorem pr_fd {F : Hp} {as : List Addr} {y z : V} (al : Alls F as (pr c y z)) {i : Nat} (hi : i < 6) : ∃ a fs, as[10 + i]? = some a ∧ Fd (c (10 + i)) fs F a ∧ fs.lookup ("at" : Str) = some y := by
  have : i = 0 ∨ i = 1 ∨ i = 2 ∨ i = 3 ∨ i = 4 ∨ i = 5 := by omega
  rcases this with rfl | rfl | rfl | rfl | rfl | rfl
  · obtain ⟨a, h1, h2⟩ := al.get (i := 10) rfl
    exact ⟨a, _, h1, h2, rfl⟩
  · obtain ⟨a, h1, h2⟩ := al.get (i := 11) rfl
    exact ⟨a, _, h1, h2, rfl⟩
  · obtain ⟨a, h1, h2⟩ := al.get (i := 12) rfl
    exact ⟨a, _, h1, h2, rfl⟩
  · obtain ⟨a, h1, h2⟩ := al.get (i := 13) rfl
    exact ⟨a, _, h1, h2, rfl⟩
  · obtain ⟨a, h1, h2⟩ := al.get (i := 14) rfl
    exact ⟨a, _, h1, h2, rfl⟩
  · obtain ⟨a, h1, h2⟩ := al.get (i := 15) rfl
    exact ⟨a, _, h1, h2, rfl⟩
theorem bls_lc (i : Nat) (h : i < 16) : PyData.eqv (bls i) (.list (((List.range 16).filter fun _ => true).map fun j => .bool (decide ((i : Int) = (j : Nat))))) = true := by
  rcases to16 h with rfl | rfl | rfl | rfl | rfl | rfl | rfl | rfl | rfl | rfl | rfl | rfl | rfl | rfl | rfl | rfl <;> decide +kernel
theorem sh_a (i : Nat) (h : i < 16) : SeqAt.shaped (bls i) = true := by
  rcases to16 h with rfl | rfl | rfl | rfl | rfl | rfl | rfl | rfl | rfl | rfl | rfl | rfl | rfl | rfl | rfl | rfl <;> decide +kernel
theorem sh_b (i : Nat) (h : i < 16) : SeqAt.shaped (.list (((List.range 16).filter fun _ => true).map fun j => .bool (decide ((i : Int) = (j : Nat))))) = true := by
  rcases to16 h with rfl | rfl | rfl | rfl | rfl | rfl | rfl | rfl | rfl | rfl | rfl | rfl | rfl | rfl | rfl | rfl <;> decide +kernel
theorem pure_Law (T : Tx K mg c) (X : Fx K c) (vs : List V) (H0 : Hp) (Q : VK) (E : XK) (h : spLaw K vs H0 Q E) : tLaw K c { nx := fun _ H' => Q .non H', rt := Q } (start ["_law_script", "_law_cell", "_law_number", "_law_goals", "_law_some", "_law_k", "_law_e", "_law_j"] vs) H0 := by
  obtain ⟨a, ns, rfl, hS, hn, q⟩ := h
  have sm0 : Same (fun _ => none) H0 := fun b o e => nomatch e
  refine ⟨.ref a, rfl, 1, rfl, a, ns.map V.int, rfl, hS, fun p1 n1 => ?_⟩
  have e1 : cutV (ns.map V.int) none (some 1) = ((ns.drop (HT.sIx (ns.map V.int).length 0 none)).take (HT.sIx (ns.map V.int).length (ns.map V.int).length (some 1) - HT.sIx (ns.map V.int).length 0 none)).map V.int := by
    unfold cutV
    rw [List.map_take, List.map_drop]
  have g1 : Gr [] (fun _ => none) H0 (fun _ => none) (upd H0 p1 (.lst (cutV (ns.map V.int) none (some 1)))) := (Gr.refl sm0).newM n1
  refine ⟨p1, _, rfl, .inl (.inl (by rw [upd_same, e1])), ?_⟩
  generalize ((ns.drop (HT.sIx (ns.map V.int).length 0 none)).take (HT.sIx (ns.map V.int).length (ns.map V.int).length (some 1) - HT.sIx (ns.map V.int).length 0 none)).sum = cell
  generalize upd H0 p1 (.lst (cutV (ns.map V.int) none (some 1))) = H1 at g1
  -- number
  refine q_set (K := K) (d := .int (cell / 2 % 41)) (ed_op (ed_op (ed_var rfl (.int cell)) ed_int (rr_I (gg := fun i j => i / j) ⟨by decide, by decide⟩)) ed_int (rr_I (gg := fun i j => i % j) (by decide))) g1.fh fun v2 F2 H2 g2 r2 => ?_
  cases r2.asInt
  refine q_ifset (K := K) (n1 := cell / 2 % 10 ^ 60) (eb_test (K := K) (ed_op (ed_op (ed_var rfl (.int cell)) ed_int (rr_I (gg := fun i j => i % j) (by decide))) ed_int rr_eqI)) g2.fh (ed_op (ed_op (ed_var rfl (.int cell)) ed_int (rr_I (gg := fun i j => i / j) ⟨by decide, by decide⟩)) (ed_op ed_int ed_int (rr_I (gg := fun i j => i ^ j.toNat) ⟨by decide, by decide, by decide⟩)) (rr_I (gg := fun i j => i % j) (by decide))) rfl fun n F3 H3 g3 => ?_
  -- goals
  have tn : ∀ σ F H, ED K (tTup (tCons (tC (.str "no")) tNil)) σ F H (.tuple [.str "no"]) := fun σ F H => ed_tup (ea_cons ed_str ea_nil) (by decide)
  refine q_set (K := K) (d := .list (cutD [.tuple [.tuple [], .tuple [.str "no"]], .tuple [.tuple [.tuple [.str "no"]], .tuple [.str "not", .tuple [.str "no"]]]] none (some (cell / 4 % 3)))) (ed_slL (ed_lst (ea_cons (ed_tup (ea_cons (ed_tup ea_nil (by decide)) (ea_cons (tn _ _ _) ea_nil)) (by decide)) (ea_cons (ed_tup (ea_cons (ed_tup (ea_cons (tn _ _ _) ea_nil) (by decide)) (ea_cons (ed_tup (ea_cons ed_str (ea_cons (tn _ _ _) ea_nil)) (by decide)) ea_nil)) (by decide)) ea_nil)) (by decide)) eo_none (eo_some (K := K) (ed_op (ed_op (ed_var rfl (.int cell)) ed_int (rr_I (gg := fun i j => i / j) ⟨by decide, by decide⟩)) ed_int (rr_I (gg := fun i j => i % j) (by decide))))) g3.fh fun vg F4 H4 g4 rg => ?_
  have shg : SeqAt.shaped (.list (cutD [.tuple [.tuple [], .tuple [.str "no"]], .tuple [.tuple [.tuple [.str "no"]], .tuple [.str "not", .tuple [.str "no"]]]] none (some (cell / 4 % 3)))) = true := by
    have h0 : cell / 4 % 3 = 0 ∨ cell / 4 % 3 = 1 ∨ cell / 4 % 3 = 2 := by omega
    rcases h0 with h0 | h0 | h0 <;> rw [h0] <;> decide +kernel
  generalize cutD [.tuple [.tuple [], .tuple [.str "no"]], .tuple [.tuple [.tuple [.str "no"]], .tuple [.str "not", .tuple [.str "no"]]]] none (some (cell / 4 % 3)) = gs at rg shg
  -- made
  refine ⟨.int n, rfl, vg, rfl, .int n, vg, F4, rfl, g4.fh, fun p as F5 H5 g5 hp al => ?_⟩
  -- the first loop
  refine ⟨16, rfl, by decide, by decide, ?_⟩
  refine for_range (lo := 0) (n := 16) (fun i σ2 H6 => ∃ F6 y5, σ2 = [some (.ref a), some (.int cell), some (.int n), some vg, some (.ref p), y5, none, none] ∧ Gr [] F5 H5 F6 H6) ⟨F5, none, rfl, Gr.refl g5.fh⟩ ?_ ?_
  · rintro i σ2 H6 hi ⟨F6, y5, rfl, g6⟩
    rw [Int.zero_add]
    obtain ⟨x, hx, ex⟩ := pr_at (K := K) al hi
    have hx' : (as.map V.ref)[i]? = some (.ref x) := by rw [List.getElem?_map, hx]; rfl
    have ix : ∀ F7 H7, Same F6 F7 → EV (tOp (rIxL K) (tVar 4) (tVar 5)) [some (.ref a), some (.int cell), some (.int n), some vg, some (.ref p), some (.int i), none, none] F7 H7 (.ref x) := fun F7 H7 s => ev_ix rfl (s _ _ (g6.ff _ _ hp)) (ev_var rfl) hx'
    have cal : ED K (tCall (spSorts K c) [] E0 (tCons (tOp (rIxL K) (tVar 4) (tVar 5)) tNil)) [some (.ref a), some (.int cell), some (.int n), some vg, some (.ref p), some (.int i), none, none] F6 H6 (bls i) := fun F7 H7 g7 Q q =>
      ix F7 H7 g7.ff F7 H7 (.refl g7.fh) _ ⟨x, F7, i, rfl, by omega, g7.fh, exAt_up (g6.ff.trans g7.ff) ex, q⟩
    refine q_when (eb_test (K := K) (ed_op cal (ed_lcRF (n := 16) (p := fun _ => true) (f := fun j => .bool (decide ((i : Int) = (j : Nat)))) ed_int (by decide) (fun _ => rfl) (fun _ _ _ _ _ => ev_yes) fun j F7 H7 _ _ g7 => ed_op (ed_var rfl (.int i)) (ed_var rfl (.int j)) rr_eqI) (rr_neD ?_ ?_))) g6.fh (fun e => ?_) fun _ F7 H7 g7 => ?_
    · exact sh_a i hi
    · exact sh_b i hi
    · rw [bls_lc i hi] at e
      cases e
    · refine s_when (b := (!true || !true)) (eb_or (eb_not (eb_B (K := K) (ed_isX (ix F7 H7 g7.ff) (exAt_up (g6.ff.trans g7.ff) ex) (T.xc i (by omega)) (fun u r => r) (T.ks i (by omega))))) fun _ => eb_not (eb_B (K := K) (ed_isX (ix F7 H7 g7.ff) (exAt_up (g6.ff.trans g7.ff) ex) (T.xc i (by omega)) (fun u r => r) (T.kv i (by omega))))) g7.fh (fun e => nomatch e) fun _ F8 H8 g8 => ?_
      exact ⟨F8, some (.int i), rfl, (g6.tr g7).tr g8⟩
  · rintro σ2 H6 ⟨F6, y5, rfl, g6⟩
    obtain ⟨x0, f0, h0, d0, l0⟩ := pr_fd al (i := 0) (by decide)
    obtain ⟨x1, f1, h1, d1, l1⟩ := pr_fd al (i := 1) (by decide)
    obtain ⟨x2, f2, h2, d2, l2⟩ := pr_fd al (i := 2) (by decide)
    obtain ⟨x3, f3, h3, d3, l3⟩ := pr_fd al (i := 3) (by decide)
    obtain ⟨x4, f4, h4, d4, l4⟩ := pr_fd al (i := 4) (by decide)
    obtain ⟨x5, h5, d5⟩ := al.get (i := 15) rfl
    have hS6 : SqL K H6 p (as.map V.ref) := .inl (.inl (g6.fh _ _ (g6.ff _ _ hp)))
    have mp : ∀ {k : Nat} {x : Addr}, as[k]? = some x → atI (as.map V.ref) (k : Nat) = some (V.ref x) := fun h => atI_nat (by rw [List.getElem?_map, h]; rfl)
    refine ⟨.ref p, rfl, p, _, 10, .ref x0, rfl, rfl, hS6, mp h0, .ref p, rfl, p, _, 11, .ref x1, rfl, rfl, hS6, mp h1, .ref p, rfl, p, _, 12, .ref x2, rfl, rfl, hS6, mp h2, .ref p, rfl, p, _, 13, .ref x3, rfl, rfl, hS6, mp h3, .ref p, rfl, p, _, 14, .ref x4, rfl, rfl, hS6, mp h4, .ref p, rfl, p, _, 15, .ref x5, rfl, rfl, hS6, mp h5, (show 6 ≤ sizeLine by decide), fun l nl => ⟨l, rfl, ⟨_, .inl (.inl upd_same)⟩, ?_⟩⟩
    have g7 : Gr [] F6 H6 (upd F6 l (.lst [.ref x0, .ref x1, .ref x2, .ref x3, .ref x4, .ref x5])) (upd H6 l (.lst [.ref x0, .ref x1, .ref x2, .ref x3, .ref x4, .ref x5])) := (Gr.refl g6.fh).new nl
    have hl : upd F6 l (.lst [.ref x0, .ref x1, .ref x2, .ref x3, .ref x4, .ref x5]) l = some (.lst [.ref x0, .ref x1, .ref x2, .ref x3, .ref x4, .ref x5]) := upd_same
    generalize upd F6 l (.lst [.ref x0, .ref x1, .ref x2, .ref x3, .ref x4, .ref x5]) = F7 at g7 hl
    generalize upd H6 l (.lst [.ref x0, .ref x1, .ref x2, .ref x3, .ref x4, .ref x5]) = H7 at g7
    refine for_list (xs := [.ref x0, .ref x1, .ref x2, .ref x3, .ref x4, .ref x5]) (fun i σ2 H8 => ∃ F8 y6, σ2 = [some (.ref a), some (.int cell), some (.int n), some vg, some (.ref p), y5, y6, none] ∧ Gr [] F7 H7 F8 H8) ⟨F7, none, rfl, Gr.refl g7.fh⟩ ?_ ?_ ?_
    · rintro i σ2 H8 _ ⟨F8, y6, rfl, g8⟩
      exact .inl (.inl (g8.fh _ _ (g8.ff _ _ hl)))
    · rintro i x σ2 H8 hx ⟨F8, y6, rfl, g8⟩
      have hx2 : ∃ k y fs, x = .ref y ∧ 10 ≤ k ∧ k < 16 ∧ Fd (c k) fs F5 y ∧ fs.lookup ("at" : Str) = some (.int n) := by
        match i, hx with
        | 0, hx => exact ⟨10, x0, f0, by simpa using hx.symm, by decide, by decide, d0, l0⟩
        | 1, hx => exact ⟨11, x1, f1, by simpa using hx.symm, by decide, by decide, d1, l1⟩
        | 2, hx => exact ⟨12, x2, f2, by simpa using hx.symm, by decide, by decide, d2, l2⟩
        | 3, hx => exact ⟨13, x3, f3, by simpa using hx.symm, by decide, by decide, d3, l3⟩
        | 4, hx => exact ⟨14, x4, f4, by simpa using hx.symm, by decide, by decide, d4, l4⟩
        | 5, hx => exact ⟨15, x5, _, by simpa using hx.symm, by decide, by decide, d5, rfl⟩
        | n + 6, hx => simp at hx
      obtain ⟨k, y, fs, rfl, k1, k2, fd, lk⟩ := hx2
      have fd8 : Fd (c k) fs F8 y := upw_fd _ _ _ ((g6.tr g7).tr g8).ff fd
      have at8 : ED K (tXv K "at" (tVar 6)) [some (.ref a), some (.int cell), some (.int n), some vg, some (.ref p), y5, some (.ref y), none] F8 H8 (.int n) := ed_xv (ev_var rfl) (X.xf k k1 k2) (X.na k k1 k2) fd8 lk (.int n)
      refine s_when (b := (!decide (n = n) || false)) (eb_or (eb_test (K := K) (ed_op at8 (ed_var rfl (.int n)) rr_neI)) fun _ => eb_B (K := K) (ed_isi at8 (show kitB "int" "bool" = some false by decide +kernel))) g8.fh (fun e => by simp at e) fun _ F9 H9 g9 => ?_
      exact ⟨F9, _, rfl, g8.tr g9⟩
    · rintro σ2 H8 ⟨F8, y6, rfl, g8⟩
      have g58 := (g6.tr g7).tr g8
      have rg8 := ((rg.at g5.ff).at g58.ff)
      have hx5 : (as.map V.ref)[15]? = some (.ref x5) := by rw [List.getElem?_map, h5]; rfl
      have fd5 := upw_fd _ _ _ g58.ff d5
      have cal : ED K (tCall (spSorts K c) [] E0 (tCons (tExc (c 16) (tC (.str "a"))) tNil)) [some (.ref a), some (.int cell), some (.int n), some vg, some (.ref p), y5, y6, none] F8 H8 (bls 16) := fun F9 H9 g9 Q q => fun b nb => by
        have g10 : Gr [] F9 H9 (upd F9 b (ExO (.ref (c 16)) b)) (upd H9 b (ExO (.ref (c 16)) b)) := (Gr.refl g9.fh).new nb
        exact ⟨b, _, 16, rfl, by decide, g10.fh, .inl upd_same, fun v F2 H2 g2 r => q v F2 H2 (g10.tr g2) r⟩
      refine q_ret (K := K) (d := .bool (PyData.eqv (.list gs) (.list gs) && !(((List.range 16).map fun j => PyData.bool (16 == j)).any fun z => PyData.eqv z (.bool true)))) (ed_and (ed_op (ed_xv (n := "goals") (ev_ix rfl (g58.ff _ _ hp) ev_c hx5) (X.xf 15 (by decide) (by decide)) X.ng fd5 rfl rg8) (ed_var rfl rg8) (rr_eqD shg shg)) fun _ => ed_op (ed_c (.bl true)) cal (rr_notInL rfl (by decide +kernel))) g8.fh fun v F9 H9 g9 r => ?_
      have e1 : PyData.eqv (.list gs) (.list gs) = true := SeqAt.eqv_refl _ (by have z := shg; unfold SeqAt.shaped at z; exact (Bool.and_eq_true_iff.mp z).1)
      rw [e1, show (true && !(((List.range 16).map fun j => PyData.bool (16 == j)).any fun z => PyData.eqv z (.bool true))) = true by decide +kernel] at r
      cases r.asBl
      exact q H9
theorem ok_Law {fLaw fSo fMd : Addr} {fdLaw fdSo fdMd : FuncData} (DLaw : Df K mg "law" sLaw ["_law_script"] fLaw fdLaw) (DSo : Df K mg "_law_sorts" sSo ["_law_e"] fSo fdSo) (DMd : Df K mg "_law_made" sMd ["_law_number", "_law_goals"] fMd fdMd)
    (T : Tx K mg c) (U : Ux K c ini) (X : Fx K c) (GMd : FnOk P w K mg base CX0 3 fMd fdMd ["_law_number", "_law_goals"] (spMade K c)) (m_isinstance : mg "isinstance" = none) (m_sum : mg "sum" = none) (m_range : mg "range" = none) (m_ValueError : mg "ValueError" = none) (m_bool : mg "bool" = none) : FnOk P w K mg base CX0 4 fLaw fdLaw ["_law_script"] (spLaw K) := by
  have GSo : FnOk P w K mg base CX0 3 fSo fdSo ["_law_e"] (spSorts K c) := ok_So (k := 2) DSo.F T m_isinstance
  refine DLaw.F.ok scLaw (fun vs H Q E h => ?_) (fun cdv A outer s H vs Q E hr h => ⟨tLaw K c, ?_, pure_Law T X vs H Q E h⟩)
  · obtain ⟨a, ns, rfl, _⟩ := h
    rfl
  · exact (pss_cons (ps_set (i := 1) scLaw.nd rfl (Or.inl rfl) (pe_callB (cr_sum (by rfl)) (by rfl) m_sum (by decide +kernel) (pa_cons (pe_slice sl_list (pv 0) po_none (po_some pe_int)) pa_nil)))
    (pss_cons (ps_set (i := 2) scLaw.nd rfl (Or.inl rfl) (pe_op op_mod (pe_op op_fdiv (pv 1) pe_int) pe_int))
    (pss_cons (ps_if (pt_cmpR op_eq (pe_op op_mod (pv 1) pe_int) pe_int (nomark _)) (pss_one (ps_set (i := 2) scLaw.nd rfl (Or.inl rfl) (pe_op op_mod (pe_op op_fdiv (pv 1) pe_int) (pe_op op_pow pe_int pe_int)))) pss_nil)
    (pss_cons (ps_set (i := 3) scLaw.nd rfl (Or.inl rfl) (pe_slice sl_list (pe_lst (pa_cons (pe_tup (pa_cons (pe_tup pa_nil) (pa_cons (pe_tup (pa_cons pe_str pa_nil)) pa_nil))) (pa_cons (pe_tup (pa_cons (pe_tup (pa_cons (pe_tup (pa_cons pe_str pa_nil)) pa_nil)) (pa_cons (pe_tup (pa_cons pe_str (pa_cons (pe_tup (pa_cons pe_str pa_nil)) pa_nil))) pa_nil))) pa_nil))) po_none (po_some (pe_op op_mod (pe_op op_fdiv (pv 1) pe_int) pe_int))))
    (pss_cons (ps_set (i := 4) scLaw.nd rfl (Or.inl rfl) (pe_call GMd hr (by rfl) DMd.g DMd.F.kp DMd.b .nil pass0 (pa_cons (pv 2) (pa_cons (pv 3) pa_nil))))
    (pss_cons (ps_for PassesOwn.never (by rfl) (pi_range1 (by rfl) m_range (pa_cons pe_int pa_nil)) (pg_name (i := 5) scLaw.nd rfl (Or.inr rfl)) (pss_cons (ps_if (pt_cmpR (op_neD hr.units) (pe_call GSo hr (by rfl) DSo.g DSo.F.kp DSo.b .nil pass0 (pa_cons (pe_ix ix_list (pv 4) (pv 5) (fun _ _ => rfl)) pa_nil)) (pe_lc (own := [("_law_j", 7)]) (g := (gName 7)) (tt := tYes) (by rfl) scLaw.nd (pi_range1 (by rfl) m_range (pa_cons pe_int pa_nil)) (blkOk_by (own := [("_law_j", 7)]) (N := ["_law_script", "_law_cell", "_law_number", "_law_goals", "_law_some", "_law_k", "_law_e", "_law_j"]) (sc := defScope sLaw) (by decide +kernel)) (fun _ _ _ _ _ => (pg_name (i := 7) scLaw.nd rfl (Or.inl rfl))) (fun _ _ _ _ _ => pts_nil) (fun _ _ _ _ _ => (pe_cmpR op_eq (pv 5) (pv 7) (nomark _)))) (nomark _)) (pss_one (ps_ret pe_bl)) pss_nil)
    (pss_one (ps_if (PW.pt (pw_or (pt_not (pt_val (pe_callB call_isV (by rfl) m_isinstance (by decide +kernel) (pa_cons (pe_ix ix_list (pv 4) (pv 5) (fun _ _ => rfl)) (pa_cons (pe_glob (v := .ref (c 16)) (by rfl) (T.gl 16 (by decide)) rfl) pa_nil))))) (pw_or1 (pt_not (pt_val (pe_callB call_isV (by rfl) m_isinstance (by decide +kernel) (pa_cons (pe_ix ix_list (pv 4) (pv 5) (fun _ _ => rfl)) (pa_cons (pe_bltn (v := .ty "ValueError") (by rfl) m_ValueError (by decide +kernel) rfl) pa_nil)))))))) (pss_one (ps_ret pe_bl)) pss_nil))))
    (pss_cons (ps_for PassesOwn.never (by rfl) (pi_list (pe_lst (pa_cons (pe_ix ix_list (pv 4) pe_int (fun _ _ => rfl)) (pa_cons (pe_ix ix_list (pv 4) pe_int (fun _ _ => rfl)) (pa_cons (pe_ix ix_list (pv 4) pe_int (fun _ _ => rfl)) (pa_cons (pe_ix ix_list (pv 4) pe_int (fun _ _ => rfl)) (pa_cons (pe_ix ix_list (pv 4) pe_int (fun _ _ => rfl)) (pa_cons (pe_ix ix_list (pv 4) pe_int (fun _ _ => rfl)) pa_nil)))))))) (pg_name (i := 6) scLaw.nd rfl (Or.inl rfl)) (pss_one (ps_if (PW.pt (pw_or (pt_cmpR op_ne (pe_xv (pv 6)) (pv 2) (nomark _)) (pw_or1 (pt_val (pe_callB call_isi (by rfl) m_isinstance (by decide +kernel) (pa_cons (pe_xv (pv 6)) (pa_cons (pe_bltn (v := .ty "bool") (by rfl) m_bool (by decide +kernel) rfl) pa_nil))))))) (pss_one (ps_ret pe_bl)) pss_nil)))
    (pss_one (ps_ret (pe_and (pe_cmpR (op_eqD hr.units) (pe_xv (pe_ix ix_list (pv 4) pe_int (fun _ _ => rfl))) (pv 3) (nomark _)) (pe_one (pe_cmpR op_notIn_seq pe_bl (pe_call GSo hr (by rfl) DSo.g DSo.F.kp DSo.b .nil pass0 (pa_cons (pe_exc1 PySem.F.excBase_ValueError (U.xi 16 (by decide)) (T.gl 16 (by decide)) (U.kp 16 (by decide)) (by rfl) pe_str) pa_nil)) (by rfl)))))))))))))
end
end Wr
namespace Wr
open PySem PySem.Spec PyProof.Rows L2 Ly
def excB (K : PySem.W.Frag) (D : Addr) : Bool := decide (PySem.W.findIn K (.ref D) "__getattribute__" = some (some (.builtin "BaseException.__getattribute__"))) && (decide (PySem.W.findIn K (.ref D) "__getattr__" = some none) && (decide (PySem.W.subIn K (.ref D) (.type "BaseException") = some true) && (PySem.W.hasDictIn K D && (decide (PySem.W.findIn K (.ref D) "__class__" = some (some (.builtin "object.__class__"))) && (decide (PySem.W.specialIn K (.builtin "object.__class__") "__get__" = some (some (.builtin "getset_descriptor.__get__"))) && (decide (PySem.W.takesIn K (.builtin "object.__class__") = some true) && decide (PySem.W.mroIn K D (.type "object") = some true)))))))
theorem excB_ok {K : PySem.W.Frag} {D : Addr} (h : excB K D = true) : ExcC K D := by
  unfold excB at h
  simp only [Bool.and_eq_true, decide_eq_true_eq] at h
  obtain ⟨h1, h2, h3, h4, h5, h6, h7, h8⟩ := h
  exact ⟨h1, h2, h3, h4, h5, h6, h7, h8⟩
def oexB (K : PySem.W.Frag) (C : Addr) : Bool := decide (PySem.W.findIn K (.ref C) "__setattr__" = some (some (.builtin "object.__setattr__"))) && (decide (PySem.W.typeIn K (.ref C) = some (.type "type")) && decide (PySem.W.findIn K (.ref C) "at" = some none))
theorem all_at {α : Type} {f : α → Bool} {l : List α} (h : l.all f = true) {i : Nat} {x : α} (e : l[i]? = some x) : f x = true := List.all_eq_true.mp h x (List.mem_of_getElem? e)
theorem rng_at {f : Nat → Bool} {n : Nat} (h : (List.range n).all f = true) {i : Nat} (e : i < n) : f i = true := List.all_eq_true.mp h i (List.mem_range.mpr e)
def cc (l : List Addr) (i : Nat) : Addr := l.getD i 0
theorem all_mk {l : PySem.W.OpenLaw} {w : World} {K : PySem.W.Frag} {h : Heap} {mg : Str → Option Value} {fa : Addr} (X : K.In h) (G : h.Ns mainGlobals mg) (hfa : mg "law" = some (.ref fa))
    {c0 : Addr} (g0 : PySem.W.nsIn K mainGlobals "NoGround" = some (some (.ref c0)))
    {c1 : Addr} (g1 : PySem.W.nsIn K mainGlobals "NoText" = some (some (.ref c1)))
    {c2 : Addr} (g2 : PySem.W.nsIn K mainGlobals "NoData" = some (some (.ref c2)))
    {c3 : Addr} (g3 : PySem.W.nsIn K mainGlobals "TooMany" = some (some (.ref c3)))
    {c4 : Addr} (g4 : PySem.W.nsIn K mainGlobals "TooFar" = some (some (.ref c4)))
    {c5 : Addr} (g5 : PySem.W.nsIn K mainGlobals "NoRule" = some (some (.ref c5)))
    {c6 : Addr} (g6 : PySem.W.nsIn K mainGlobals "NoGoal" = some (some (.ref c6)))
    {c7 : Addr} (g7 : PySem.W.nsIn K mainGlobals "Fails" = some (some (.ref c7)))
    {c8 : Addr} (g8 : PySem.W.nsIn K mainGlobals "NotFalling" = some (some (.ref c8)))
    {c9 : Addr} (g9 : PySem.W.nsIn K mainGlobals "NoRewrite" = some (some (.ref c9)))
    {c10 : Addr} (g10 : PySem.W.nsIn K mainGlobals "NoRow" = some (some (.ref c10)))
    {c11 : Addr} (g11 : PySem.W.nsIn K mainGlobals "BadText" = some (some (.ref c11)))
    {c12 : Addr} (g12 : PySem.W.nsIn K mainGlobals "Taken" = some (some (.ref c12)))
    {c13 : Addr} (g13 : PySem.W.nsIn K mainGlobals "NoName" = some (some (.ref c13)))
    {c14 : Addr} (g14 : PySem.W.nsIn K mainGlobals "Unfit" = some (some (.ref c14)))
    {c15 : Addr} (g15 : PySem.W.nsIn K mainGlobals "Left" = some (some (.ref c15)))
    {c16 : Addr} (g16 : PySem.W.nsIn K mainGlobals "SmithError" = some (some (.ref c16)))
    (b1 : (([c0, c1, c2, c3, c4, c5, c6, c7, c8, c9, c10, c11, c12, c13, c14, c15, c16] : List Addr).all fun D => excB K D) = true)
    (b2 : ((List.range 17).all fun i => (List.range 16).all fun j => decide (PySem.W.kitOne K (.ref (cc [c0, c1, c2, c3, c4, c5, c6, c7, c8, c9, c10, c11, c12, c13, c14, c15, c16] i)) (.ref (cc [c0, c1, c2, c3, c4, c5, c6, c7, c8, c9, c10, c11, c12, c13, c14, c15, c16] j)) = some (i == j))) = true)
    (b3 : (([c0, c1, c2, c3, c4, c5, c6, c7, c8, c9, c10, c11, c12, c13, c14, c15, c16] : List Addr).all fun D => decide (PySem.W.kitOne K (.ref D) (.ref c16) = some true) && decide (PySem.W.kitOne K (.ref D) (.type "ValueError") = some true)) = true)
    (b5 : (([c0, c1, c2, c3, c4, c5, c6, c7, c8, c9, c10, c11, c12, c13, c14, c15, c16] : List Addr).all fun D => PySem.W.keepIn K (.ref D)) = true)
    (b6 : (([c10, c11, c12, c13, c14, c15] : List Addr).all fun D => oexB K D) = true)
    (b7 : PySem.W.findIn K (.ref c15) "goals" = some none)
    (s1 : PySem.W.readsIn K c16 (.type "type") = true) (s2 : PySem.W.specialIn K (.ref c16) "__getattribute__" = some (some (.builtin "type.__getattribute__"))) (s3 : PySem.W.findCls K (.ref c16) (.type "type") "__init__" = some (.val (.builtin "ValueError.__init__")))
    (x0 : PySem.W.excIn K c0 bmV "ValueError.__new__" = true)
    (x1 : PySem.W.excIn K c1 bmV "ValueError.__new__" = true)
    (x2 : PySem.W.excIn K c2 bmV "ValueError.__new__" = true)
    (x3 : PySem.W.excIn K c3 bmV "ValueError.__new__" = true)
    (x4 : PySem.W.excIn K c4 bmV "ValueError.__new__" = true)
    (x5 : PySem.W.excIn K c5 bmV "ValueError.__new__" = true)
    (x6 : PySem.W.excIn K c6 bmV "ValueError.__new__" = true)
    (x7 : PySem.W.excIn K c7 bmV "ValueError.__new__" = true)
    (x8 : PySem.W.excIn K c8 bmV "ValueError.__new__" = true)
    (x9 : PySem.W.excIn K c9 bmV "ValueError.__new__" = true)
    (x16 : PySem.W.excIn K c16 bmV "ValueError.__new__" = true)
    {nm10 q10 : Str} {N10 : Addr} {bs10 bm10 : List Value} {sn10 sub10 ab10 col10 dd10 k010 k110 k210 k310 k510 : _} (xL10 : K.lookup c10 = some (excClassObj nm10 q10 c10 N10 bs10 bm10 true sn10 sub10 ab10 col10 dd10 k010 k110 k210 k310 k510 "ValueError.__new__")) (xr10 : PySem.HandSPX.refsVE bm10 = true)
    {i10 : Addr} (f10 : PySem.W.findIn K (.ref c10) "__init__" = some (some (.ref i10))) (t10 : PySem.W.typeIn K (.ref i10) = some (.type "function"))
    {odi10 ani10 : Option Addr} {sli10 : Array (Option Value)} {oci10 kVi10 dci10 pmi10 cdi10 cti10 : Value} (li10 : K.lookup i10 = some ⟨oci10, odi10, .func (PySem.W.fnOf "__init__" "NoRow.__init__" (defArgs sNoRow) (defBody sNoRow) (defScope sNoRow) .none kVi10 dci10 pmi10 ani10 cdi10 cti10), sli10⟩) (ci10 : PySem.W.codeIn K cdi10 "NoRow.__init__" = true) (ki10 : PySem.W.keepIn K (.ref i10) = true)
    {nm11 q11 : Str} {N11 : Addr} {bs11 bm11 : List Value} {sn11 sub11 ab11 col11 dd11 k011 k111 k211 k311 k511 : _} (xL11 : K.lookup c11 = some (excClassObj nm11 q11 c11 N11 bs11 bm11 true sn11 sub11 ab11 col11 dd11 k011 k111 k211 k311 k511 "ValueError.__new__")) (xr11 : PySem.HandSPX.refsVE bm11 = true)
    {i11 : Addr} (f11 : PySem.W.findIn K (.ref c11) "__init__" = some (some (.ref i11))) (t11 : PySem.W.typeIn K (.ref i11) = some (.type "function"))
    {odi11 ani11 : Option Addr} {sli11 : Array (Option Value)} {oci11 kVi11 dci11 pmi11 cdi11 cti11 : Value} (li11 : K.lookup i11 = some ⟨oci11, odi11, .func (PySem.W.fnOf "__init__" "BadText.__init__" (defArgs sBadText) (defBody sBadText) (defScope sBadText) .none kVi11 dci11 pmi11 ani11 cdi11 cti11), sli11⟩) (ci11 : PySem.W.codeIn K cdi11 "BadText.__init__" = true) (ki11 : PySem.W.keepIn K (.ref i11) = true)
    {nm12 q12 : Str} {N12 : Addr} {bs12 bm12 : List Value} {sn12 sub12 ab12 col12 dd12 k012 k112 k212 k312 k512 : _} (xL12 : K.lookup c12 = some (excClassObj nm12 q12 c12 N12 bs12 bm12 true sn12 sub12 ab12 col12 dd12 k012 k112 k212 k312 k512 "ValueError.__new__")) (xr12 : PySem.HandSPX.refsVE bm12 = true)
    {i12 : Addr} (f12 : PySem.W.findIn K (.ref c12) "__init__" = some (some (.ref i12))) (t12 : PySem.W.typeIn K (.ref i12) = some (.type "function"))
    {odi12 ani12 : Option Addr} {sli12 : Array (Option Value)} {oci12 kVi12 dci12 pmi12 cdi12 cti12 : Value} (li12 : K.lookup i12 = some ⟨oci12, odi12, .func (PySem.W.fnOf "__init__" "Taken.__init__" (defArgs sTaken) (defBody sTaken) (defScope sTaken) .none kVi12 dci12 pmi12 ani12 cdi12 cti12), sli12⟩) (ci12 : PySem.W.codeIn K cdi12 "Taken.__init__" = true) (ki12 : PySem.W.keepIn K (.ref i12) = true)
    {nm13 q13 : Str} {N13 : Addr} {bs13 bm13 : List Value} {sn13 sub13 ab13 col13 dd13 k013 k113 k213 k313 k513 : _} (xL13 : K.lookup c13 = some (excClassObj nm13 q13 c13 N13 bs13 bm13 true sn13 sub13 ab13 col13 dd13 k013 k113 k213 k313 k513 "ValueError.__new__")) (xr13 : PySem.HandSPX.refsVE bm13 = true)
    {i13 : Addr} (f13 : PySem.W.findIn K (.ref c13) "__init__" = some (some (.ref i13))) (t13 : PySem.W.typeIn K (.ref i13) = some (.type "function"))
    {odi13 ani13 : Option Addr} {sli13 : Array (Option Value)} {oci13 kVi13 dci13 pmi13 cdi13 cti13 : Value} (li13 : K.lookup i13 = some ⟨oci13, odi13, .func (PySem.W.fnOf "__init__" "NoName.__init__" (defArgs sNoName) (defBody sNoName) (defScope sNoName) .none kVi13 dci13 pmi13 ani13 cdi13 cti13), sli13⟩) (ci13 : PySem.W.codeIn K cdi13 "NoName.__init__" = true) (ki13 : PySem.W.keepIn K (.ref i13) = true)
    {nm14 q14 : Str} {N14 : Addr} {bs14 bm14 : List Value} {sn14 sub14 ab14 col14 dd14 k014 k114 k214 k314 k514 : _} (xL14 : K.lookup c14 = some (excClassObj nm14 q14 c14 N14 bs14 bm14 true sn14 sub14 ab14 col14 dd14 k014 k114 k214 k314 k514 "ValueError.__new__")) (xr14 : PySem.HandSPX.refsVE bm14 = true)
    {i14 : Addr} (f14 : PySem.W.findIn K (.ref c14) "__init__" = some (some (.ref i14))) (t14 : PySem.W.typeIn K (.ref i14) = some (.type "function"))
    {odi14 ani14 : Option Addr} {sli14 : Array (Option Value)} {oci14 kVi14 dci14 pmi14 cdi14 cti14 : Value} (li14 : K.lookup i14 = some ⟨oci14, odi14, .func (PySem.W.fnOf "__init__" "Unfit.__init__" (defArgs sUnfit) (defBody sUnfit) (defScope sUnfit) .none kVi14 dci14 pmi14 ani14 cdi14 cti14), sli14⟩) (ci14 : PySem.W.codeIn K cdi14 "Unfit.__init__" = true) (ki14 : PySem.W.keepIn K (.ref i14) = true)
    {nm15 q15 : Str} {N15 : Addr} {bs15 bm15 : List Value} {sn15 sub15 ab15 col15 dd15 k015 k115 k215 k315 k515 : _} (xL15 : K.lookup c15 = some (excClassObj nm15 q15 c15 N15 bs15 bm15 true sn15 sub15 ab15 col15 dd15 k015 k115 k215 k315 k515 "ValueError.__new__")) (xr15 : PySem.HandSPX.refsVE bm15 = true)
    {i15 : Addr} (f15 : PySem.W.findIn K (.ref c15) "__init__" = some (some (.ref i15))) (t15 : PySem.W.typeIn K (.ref i15) = some (.type "function"))
    {odi15 ani15 : Option Addr} {sli15 : Array (Option Value)} {oci15 kVi15 dci15 pmi15 cdi15 cti15 : Value} (li15 : K.lookup i15 = some ⟨oci15, odi15, .func (PySem.W.fnOf "__init__" "Left.__init__" (defArgs sLeft) (defBody sLeft) (defScope sLeft) .none kVi15 dci15 pmi15 ani15 cdi15 cti15), sli15⟩) (ci15 : PySem.W.codeIn K cdi15 "Left.__init__" = true) (ki15 : PySem.W.keepIn K (.ref i15) = true)
    {fD0 : Addr} {odD0 anD0 : Option Addr} {slD0 : Array (Option Value)} {ocD0 kVD0 dcD0 pmD0 cdD0 ctD0 : Value} (aD0 : PySem.W.nsIn K mainGlobals "_law_sorts" = some (some (.ref fD0))) (lD0 : K.lookup fD0 = some ⟨ocD0, odD0, .func (PySem.W.fnOf "_law_sorts" "_law_sorts" (defArgs sSo) (defBody sSo) (defScope sSo) .none kVD0 dcD0 pmD0 anD0 cdD0 ctD0), slD0⟩) (cD0 : PySem.W.codeIn K cdD0 "_law_sorts" = true) (kD0 : PySem.W.keepIn K (.ref fD0) = true)
    {fD1 : Addr} {odD1 anD1 : Option Addr} {slD1 : Array (Option Value)} {ocD1 kVD1 dcD1 pmD1 cdD1 ctD1 : Value} (aD1 : PySem.W.nsIn K mainGlobals "_law_made" = some (some (.ref fD1))) (lD1 : K.lookup fD1 = some ⟨ocD1, odD1, .func (PySem.W.fnOf "_law_made" "_law_made" (defArgs sMd) (defBody sMd) (defScope sMd) .none kVD1 dcD1 pmD1 anD1 cdD1 ctD1), slD1⟩) (cD1 : PySem.W.codeIn K cdD1 "_law_made" = true) (kD1 : PySem.W.keepIn K (.ref fD1) = true)
    {fD2 : Addr} {odD2 anD2 : Option Addr} {slD2 : Array (Option Value)} {ocD2 kVD2 dcD2 pmD2 cdD2 ctD2 : Value} (aD2 : PySem.W.nsIn K mainGlobals "law" = some (some (.ref fD2))) (lD2 : K.lookup fD2 = some ⟨ocD2, odD2, .func (PySem.W.fnOf "law" "law" (defArgs sLaw) (defBody sLaw) (defScope sLaw) .none kVD2 dcD2 pmD2 anD2 cdD2 ctD2), slD2⟩) (cD2 : PySem.W.codeIn K cdD2 "law" = true) (kD2 : PySem.W.keepIn K (.ref fD2) = true)
    (z0 : PySem.W.nsIn K mainGlobals "isinstance" = some none)
    (z1 : PySem.W.nsIn K mainGlobals "sum" = some none)
    (z2 : PySem.W.nsIn K mainGlobals "range" = some none)
    (z3 : PySem.W.nsIn K mainGlobals "ValueError" = some none)
    (z4 : PySem.W.nsIn K mainGlobals "bool" = some none) :
    ∃ fd : FuncData, (∀ (s : Shared) (v : Value), BindsTo s fd ⟨[v], []⟩ [("_law_script", v)]) ∧ ∀ base : Heap, K.In base → base.Ns mainGlobals mg → FnOk l.prog w K mg base CX0 4 fa fd ["_law_script"] (spLaw K) := by
  have e := hfa.symm.trans (PySem.W.mg_of X G aD2)
  cases e
  have D0 := df_mk (x := "_law_sorts") (st := sSo) (ps := ["_law_e"]) X G aD0 lD0 cD0 kD0 fun _ F => F.binds (ps := ["_law_e"]) fun _ _ _ _ _ _ us hl => match us, hl with | [_], _ => rfl
  have D1 := df_mk (x := "_law_made") (st := sMd) (ps := ["_law_number", "_law_goals"]) X G aD1 lD1 cD1 kD1 fun _ F => F.binds (ps := ["_law_number", "_law_goals"]) fun _ _ _ _ _ _ us hl => match us, hl with | [_, _], _ => rfl
  have D2 := df_mk (x := "law") (st := sLaw) (ps := ["_law_script"]) X G aD2 lD2 cD2 kD2 fun _ F => F.binds (ps := ["_law_script"]) fun _ _ _ _ _ _ us hl => match us, hl with | [_], _ => rfl
  have T : Tx K mg (cc [c0, c1, c2, c3, c4, c5, c6, c7, c8, c9, c10, c11, c12, c13, c14, c15, c16]) := by
    refine ⟨fun i hi => ?_, fun i hi => excB_ok ?_, fun i j hi hj => of_decide_eq_true (rng_at (rng_at b2 (by omega)) hj), fun i hi => ?_, fun i hi => ?_⟩
    · match i, hi with
      | 0, _ => exact PySem.W.mg_of X G g0
      | 1, _ => exact PySem.W.mg_of X G g1
      | 2, _ => exact PySem.W.mg_of X G g2
      | 3, _ => exact PySem.W.mg_of X G g3
      | 4, _ => exact PySem.W.mg_of X G g4
      | 5, _ => exact PySem.W.mg_of X G g5
      | 6, _ => exact PySem.W.mg_of X G g6
      | 7, _ => exact PySem.W.mg_of X G g7
      | 8, _ => exact PySem.W.mg_of X G g8
      | 9, _ => exact PySem.W.mg_of X G g9
      | 10, _ => exact PySem.W.mg_of X G g10
      | 11, _ => exact PySem.W.mg_of X G g11
      | 12, _ => exact PySem.W.mg_of X G g12
      | 13, _ => exact PySem.W.mg_of X G g13
      | 14, _ => exact PySem.W.mg_of X G g14
      | 15, _ => exact PySem.W.mg_of X G g15
      | 16, _ => exact PySem.W.mg_of X G g16
      | n + 17, hi => omega
    · obtain ⟨x, hx⟩ : ∃ x, ([c0, c1, c2, c3, c4, c5, c6, c7, c8, c9, c10, c11, c12, c13, c14, c15, c16] : List Addr)[i]? = some x := ⟨_, List.getElem?_eq_getElem (show i < 17 by omega)⟩
      have e : cc [c0, c1, c2, c3, c4, c5, c6, c7, c8, c9, c10, c11, c12, c13, c14, c15, c16] i = x := by unfold cc; rw [List.getD_eq_getElem?_getD, hx]; rfl
      rw [e]
      exact all_at b1 hx
    · obtain ⟨x, hx⟩ : ∃ x, ([c0, c1, c2, c3, c4, c5, c6, c7, c8, c9, c10, c11, c12, c13, c14, c15, c16] : List Addr)[i]? = some x := ⟨_, List.getElem?_eq_getElem (show i < 17 by omega)⟩
      have e : cc [c0, c1, c2, c3, c4, c5, c6, c7, c8, c9, c10, c11, c12, c13, c14, c15, c16] i = x := by unfold cc; rw [List.getD_eq_getElem?_getD, hx]; rfl
      rw [e]
      exact of_decide_eq_true (Bool.and_eq_true_iff.mp (all_at b3 hx)).1
    · obtain ⟨x, hx⟩ : ∃ x, ([c0, c1, c2, c3, c4, c5, c6, c7, c8, c9, c10, c11, c12, c13, c14, c15, c16] : List Addr)[i]? = some x := ⟨_, List.getElem?_eq_getElem (show i < 17 by omega)⟩
      have e : cc [c0, c1, c2, c3, c4, c5, c6, c7, c8, c9, c10, c11, c12, c13, c14, c15, c16] i = x := by unfold cc; rw [List.getD_eq_getElem?_getD, hx]; rfl
      rw [e]
      exact of_decide_eq_true (Bool.and_eq_true_iff.mp (all_at b3 hx)).2
  have kp : ∀ i, i ≤ 16 → PySem.W.keepIn K (.ref (cc [c0, c1, c2, c3, c4, c5, c6, c7, c8, c9, c10, c11, c12, c13, c14, c15, c16] i)) = true := fun i hi => by
    obtain ⟨x, hx⟩ : ∃ x, ([c0, c1, c2, c3, c4, c5, c6, c7, c8, c9, c10, c11, c12, c13, c14, c15, c16] : List Addr)[i]? = some x := ⟨_, List.getElem?_eq_getElem (show i < 17 by omega)⟩
    have e : cc [c0, c1, c2, c3, c4, c5, c6, c7, c8, c9, c10, c11, c12, c13, c14, c15, c16] i = x := by unfold cc; rw [List.getD_eq_getElem?_getD, hx]; rfl
    rw [e]
    exact all_at b5 hx
  have o6 : ∀ i D, ([c10, c11, c12, c13, c14, c15] : List Addr)[i]? = some D → PySem.W.findIn K (.ref D) "__setattr__" = some (some (.builtin "object.__setattr__")) ∧ PySem.W.typeIn K (.ref D) = some (.type "type") ∧ PySem.W.findIn K (.ref D) "at" = some none := fun i D e => by
    have := all_at b6 e
    unfold oexB at this
    simp only [Bool.and_eq_true, decide_eq_true_eq] at this
    exact this
  have O10 : OexC K c10 := ⟨⟨_, _, _, _, _, _, _, _, _, _, _, _, _, _, _, xL10, xr10⟩, (o6 0 c10 rfl).1, (T.xc 10 (by decide)).hs, (o6 0 c10 rfl).2.1, kp 10 (by decide)⟩
  have O11 : OexC K c11 := ⟨⟨_, _, _, _, _, _, _, _, _, _, _, _, _, _, _, xL11, xr11⟩, (o6 1 c11 rfl).1, (T.xc 11 (by decide)).hs, (o6 1 c11 rfl).2.1, kp 11 (by decide)⟩
  have O12 : OexC K c12 := ⟨⟨_, _, _, _, _, _, _, _, _, _, _, _, _, _, _, xL12, xr12⟩, (o6 2 c12 rfl).1, (T.xc 12 (by decide)).hs, (o6 2 c12 rfl).2.1, kp 12 (by decide)⟩
  have O13 : OexC K c13 := ⟨⟨_, _, _, _, _, _, _, _, _, _, _, _, _, _, _, xL13, xr13⟩, (o6 3 c13 rfl).1, (T.xc 13 (by decide)).hs, (o6 3 c13 rfl).2.1, kp 13 (by decide)⟩
  have O14 : OexC K c14 := ⟨⟨_, _, _, _, _, _, _, _, _, _, _, _, _, _, _, xL14, xr14⟩, (o6 4 c14 rfl).1, (T.xc 14 (by decide)).hs, (o6 4 c14 rfl).2.1, kp 14 (by decide)⟩
  have O15 : OexC K c15 := ⟨⟨_, _, _, _, _, _, _, _, _, _, _, _, _, _, _, xL15, xr15⟩, (o6 5 c15 rfl).1, (T.xc 15 (by decide)).hs, (o6 5 c15 rfl).2.1, kp 15 (by decide)⟩
  have U : Ux K (cc [c0, c1, c2, c3, c4, c5, c6, c7, c8, c9, c10, c11, c12, c13, c14, c15, c16]) (cc [0, 0, 0, 0, 0, 0, 0, 0, 0, 0, i10, i11, i12, i13, i14, i15]) := by
    refine ⟨fun i hi => ?_, kp, fun i h1 h2 => ?_, fun i h1 h2 => ?_, fun i h1 h2 => ?_⟩
    · have h : i = 0 ∨ i = 1 ∨ i = 2 ∨ i = 3 ∨ i = 4 ∨ i = 5 ∨ i = 6 ∨ i = 7 ∨ i = 8 ∨ i = 9 ∨ i = 16 := by omega
      rcases h with rfl | rfl | rfl | rfl | rfl | rfl | rfl | rfl | rfl | rfl | rfl
      · exact x0
      · exact x1
      · exact x2
      · exact x3
      · exact x4
      · exact x5
      · exact x6
      · exact x7
      · exact x8
      · exact x9
      · exact x16
    · have h : i = 10 ∨ i = 11 ∨ i = 12 ∨ i = 13 ∨ i = 14 ∨ i = 15 := by omega
      rcases h with rfl | rfl | rfl | rfl | rfl | rfl
      · exact O10
      · exact O11
      · exact O12
      · exact O13
      · exact O14
      · exact O15
    · have h : i = 10 ∨ i = 11 ∨ i = 12 ∨ i = 13 ∨ i = 14 ∨ i = 15 := by omega
      rcases h with rfl | rfl | rfl | rfl | rfl | rfl
      · exact f10
      · exact f11
      · exact f12
      · exact f13
      · exact f14
      · exact f15
    · have h : i = 10 ∨ i = 11 ∨ i = 12 ∨ i = 13 ∨ i = 14 ∨ i = 15 := by omega
      rcases h with rfl | rfl | rfl | rfl | rfl | rfl
      · exact t10
      · exact t11
      · exact t12
      · exact t13
      · exact t14
      · exact t15
  have Y : Fx K (cc [c0, c1, c2, c3, c4, c5, c6, c7, c8, c9, c10, c11, c12, c13, c14, c15, c16]) := by
    refine ⟨fun i h1 h2 => ⟨(T.xc i (by omega)).hg, (T.xc i (by omega)).hk, (T.xc i (by omega)).hs, (T.xc i (by omega)).hd⟩, fun i h1 h2 => ?_, b7⟩
    have h : i = 10 ∨ i = 11 ∨ i = 12 ∨ i = 13 ∨ i = 14 ∨ i = 15 := by omega
    rcases h with rfl | rfl | rfl | rfl | rfl | rfl
    · exact (o6 0 c10 rfl).2.2
    · exact (o6 1 c11 rfl).2.2
    · exact (o6 2 c12 rfl).2.2
    · exact (o6 3 c13 rfl).2.2
    · exact (o6 4 c14 rfl).2.2
    · exact (o6 5 c15 rfl).2.2
  have S : SupC K c16 := ⟨s1, s2, s3⟩
  have gB : mg "SmithError" = some (.ref c16) := PySem.W.mg_of X G g16
  have F10 := fun_mk (st := sNoRow) li10 ci10 ki10
  have B10 := F10.binds (ps := ["self", "at"]) fun _ _ _ _ _ _ us hl => match us, hl with | [_, _], _ => rfl
  have F11 := fun_mk (st := sBadText) li11 ci11 ki11
  have B11 := F11.binds (ps := ["self", "at"]) fun _ _ _ _ _ _ us hl => match us, hl with | [_, _], _ => rfl
  have F12 := fun_mk (st := sTaken) li12 ci12 ki12
  have B12 := F12.binds (ps := ["self", "at"]) fun _ _ _ _ _ _ us hl => match us, hl with | [_, _], _ => rfl
  have F13 := fun_mk (st := sNoName) li13 ci13 ki13
  have B13 := F13.binds (ps := ["self", "at"]) fun _ _ _ _ _ _ us hl => match us, hl with | [_, _], _ => rfl
  have F14 := fun_mk (st := sUnfit) li14 ci14 ki14
  have B14 := F14.binds (ps := ["self", "at"]) fun _ _ _ _ _ _ us hl => match us, hl with | [_, _], _ => rfl
  have F15 := fun_mk (st := sLeft) li15 ci15 ki15
  have B15 := F15.binds (ps := ["self", "at", "goals"]) fun _ _ _ _ _ _ us hl => match us, hl with | [_, _, _], _ => rfl
  refine ⟨PySem.W.fnOf "law" "law" (defArgs sLaw) (defBody sLaw) (defScope sLaw) .none kVD2 dcD2 pmD2 anD2 cdD2 ctD2, fun s v => .of_eq rfl, fun base _ _ => ?_⟩
  have G10 := ok_NoRow (P := l.prog) (w := w) (base := base) F10 O10 (o6 0 c10 rfl).2.2 gB S
  have G11 := ok_BadText (P := l.prog) (w := w) (base := base) F11 O11 (o6 1 c11 rfl).2.2 gB S
  have G12 := ok_Taken (P := l.prog) (w := w) (base := base) F12 O12 (o6 2 c12 rfl).2.2 gB S
  have G13 := ok_NoName (P := l.prog) (w := w) (base := base) F13 O13 (o6 3 c13 rfl).2.2 gB S
  have G14 := ok_Unfit (P := l.prog) (w := w) (base := base) F14 O14 (o6 4 c14 rfl).2.2 gB S
  have G15 := ok_Left (P := l.prog) (w := w) (base := base) F15 O15 (o6 5 c15 rfl).2.2 b7 gB S
  have GMd := ok_Md (P := l.prog) (w := w) (base := base) (c := cc [c0, c1, c2, c3, c4, c5, c6, c7, c8, c9, c10, c11, c12, c13, c14, c15, c16]) (ini := cc [0, 0, 0, 0, 0, 0, 0, 0, 0, 0, i10, i11, i12, i13, i14, i15]) D1.F T U B10 G10 B11 G11 B12 G12 B13 G13 B14 G14 B15 G15
  exact ok_Law D2 D0 D1 T U Y GMd (PySem.W.mg_none_of X G z0) (PySem.W.mg_none_of X G z1) (PySem.W.mg_none_of X G z2) (PySem.W.mg_none_of X G z3) (PySem.W.mg_none_of X G z4)
end Wr
open PySem PySem.W PyProof.Rows
set_option maxHeartbeats 0 in
theorem PySem.Challenge.cw_goalsmith_k17_refusals_holds : PySem.Challenge.rw_goalsmith_k17_refusals.Holds := by
  w_on; o_law; k_head; (case hw => w_witness2)
  k_fill
  refine L2.walk_of (l := PySem.Challenge.rw_goalsmith_k17_refusals) (n := 63) (k := 4) (x := "_law_script") (CX := fun _ => L2.CX0) (sp := fun w => Wr.spLaw _) rfl (by decide) rfl ⟨rfl, by decide, by decide⟩ (fun w h Y => PySem.W.kIn_of Y) ?F (fun _ _ a ns hl _ hS => ⟨a, ns, rfl, hS, hl, fun _ => rfl⟩) (fun _ _ _ _ _ h => h)
  case F =>
    intro w mg fa h KX G hmg
    refine' Wr.all_mk KX G hmg ?vg0 ?vg1 ?vg2 ?vg3 ?vg4 ?vg5 ?vg6 ?vg7 ?vg8 ?vg9 ?vg10 ?vg11 ?vg12 ?vg13 ?vg14 ?vg15 ?vg16 ?vb1 ?vb2 ?vb3 ?vb5 ?vb6 ?vb7 ?vs1 ?vs2 ?vs3 ?vx0 ?vx1 ?vx2 ?vx3 ?vx4 ?vx5 ?vx6 ?vx7 ?vx8 ?vx9 ?vx16 ?vxL10 ?vxr10 ?vf10 ?vt10 ?vli10 ?vci10 ?vki10 ?vxL11 ?vxr11 ?vf11 ?vt11 ?vli11 ?vci11 ?vki11 ?vxL12 ?vxr12 ?vf12 ?vt12 ?vli12 ?vci12 ?vki12 ?vxL13 ?vxr13 ?vf13 ?vt13 ?vli13 ?vci13 ?vki13 ?vxL14 ?vxr14 ?vf14 ?vt14 ?vli14 ?vci14 ?vki14 ?vxL15 ?vxr15 ?vf15 ?vt15 ?vli15 ?vci15 ?vki15 ?vaD0 ?vlD0 ?vcD0 ?vkD0 ?vaD1 ?vlD1 ?vcD1 ?vkD1 ?vaD2 ?vlD2 ?vcD2 ?vkD2 ?vz0 ?vz1 ?vz2 ?vz3 ?vz4
    (case vg0 => k_is)
    (case vg1 => k_is)
    (case vg2 => k_is)
    (case vg3 => k_is)
    (case vg4 => k_is)
    (case vg5 => k_is)
    (case vg6 => k_is)
    (case vg7 => k_is)
    (case vg8 => k_is)
    (case vg9 => k_is)
    (case vg10 => k_is)
    (case vg11 => k_is)
    (case vg12 => k_is)
    (case vg13 => k_is)
    (case vg14 => k_is)
    (case vg15 => k_is)
    (case vg16 => k_is)
    (case vb1 => kernel_rfl)
    (case vb2 => kernel_rfl)
    (case vb3 => kernel_rfl)
    (case vb5 => kernel_rfl)
    (case vb6 => kernel_rfl)
    (case vb7 => k_is)
    (case vs1 => k_is)
    (case vs2 => k_is)
    (case vs3 => k_is)
    (case vx0 => k_exc)
    (case vx1 => k_exc)
    (case vx2 => k_exc)
    (case vx3 => k_exc)
    (case vx4 => k_exc)
    (case vx5 => k_exc)
    (case vx6 => k_exc)
    (case vx7 => k_exc)
    (case vx8 => k_exc)
    (case vx9 => k_exc)
    (case vx16 => k_exc)
    (case vxL10 => k_is)
    (case vxr10 => decide +kernel)
    (case vf10 => k_is)
    (case vt10 => k_is)
    (case vli10 => k_is)
    (case vci10 => k_is)
    (case vki10 => k_is)
    (case vxL11 => k_is)
    (case vxr11 => decide +kernel)
    (case vf11 => k_is)
    (case vt11 => k_is)
    (case vli11 => k_is)
    (case vci11 => k_is)
    (case vki11 => k_is)
    (case vxL12 => k_is)
    (case vxr12 => decide +kernel)
    (case vf12 => k_is)
    (case vt12 => k_is)
    (case vli12 => k_is)
    (case vci12 => k_is)
    (case vki12 => k_is)
    (case vxL13 => k_is)
    (case vxr13 => decide +kernel)
    (case vf13 => k_is)
    (case vt13 => k_is)
    (case vli13 => k_is)
    (case vci13 => k_is)
    (case vki13 => k_is)
    (case vxL14 => k_is)
    (case vxr14 => decide +kernel)
    (case vf14 => k_is)
    (case vt14 => k_is)
    (case vli14 => k_is)
    (case vci14 => k_is)
    (case vki14 => k_is)
    (case vxL15 => k_is)
    (case vxr15 => decide +kernel)
    (case vf15 => k_is)
    (case vt15 => k_is)
    (case vli15 => k_is)
    (case vci15 => k_is)
    (case vki15 => k_is)
    (case vaD0 => k_is)
    (case vlD0 => k_is)
    (case vcD0 => k_is)
    (case vkD0 => k_is)
    (case vaD1 => k_is)
    (case vlD1 => k_is)
    (case vcD1 => k_is)
    (case vkD1 => k_is)
    (case vaD2 => k_is)
    (case vlD2 => k_is)
    (case vcD2 => k_is)
    (case vkD2 => k_is)
    (case vz0 => k_is)
    (case vz1 => k_is)
    (case vz2 => k_is)
    (case vz3 => k_is)
    (case vz4 => k_is)
