import PyProof.Rows.All
import Wide.All
import OpenK.AllK
import Wide.FinOn
import HandS.TupSets
import KE.SortData
import KE.OsSortAny
import PyProof.StrOps2
import HandS.ForMost
import HandS.IsInst
import HandS.Deep
import HandS.ClsMeth
import HandS.Codes
import PySem.Challenge.RW_redquill_k02_what_a_stroke_makes
set_option Elab.async false
set_option linter.all false
set_option maxRecDepth 100000
set_option maxHeartbeats 8000000
/-! Sets whose members are tuples of texts and ints, and sorted(..) of them. -/
namespace Rq
open PySem PySem.Spec PyProof.Rows L2

/-- the tuple at b has the items k -/
abbrev IsP (P : Program) (w : World) (h : Heap) (k : List Key) (b : Addr) : Prop := IsTupleKey (mixKind P w) h k b
abbrev hsh (P : Program) (w : World) (k : List Key) : Int := tupleKeyHash (mixKind P w) k
/-- an int or a text -/
def Plain (v : Value) : Prop := (∃ i t, v = Value.int i t) ∨ ∃ x t, v = Value.str x t
theorem plains {P : Program} {w : World} {k : List Key} {vs : List Value} (h : ItemsAre (mixKind P w) k vs) : ∀ v ∈ vs, Plain v := by
  induction h with
  | nil =>
    intro v hv
    cases hv
  | cons one _ ih =>
    intro v hv
    rcases List.mem_cons.mp hv with rfl | hv
    · rcases keyIs_shape one with ⟨i, t, _, e⟩ | ⟨x, t, _, e⟩
      · exact .inl ⟨i, t, e⟩
      · exact .inr ⟨x, t, e⟩
    · exact ih v hv
theorem plain_class {v : Value} (p : Plain v) (n : Nat) : ofAClassStatement n v = pure false := by
  rcases p with ⟨i, t, rfl⟩ | ⟨x, t, rfl⟩
  · cases n <;> rfl
  · cases n <;> rfl
theorem plain_hash {v : Value} (p : Plain v) (n : Nat) : ∃ c, hashByValue n v = pure c := by
  rcases p with ⟨i, t, rfl⟩ | ⟨x, t, rfl⟩
  · exact ⟨true, by cases n <;> rfl⟩
  · exact ⟨false, by cases n <;> rfl⟩

section
variable {P : Program} {w : World} {A : Around} {E : Value → Shared → Prop} {s : Shared} {k : List Key} {b : Addr}
theorem cls_tup {Q : Bool → Shared → Prop} (hk : IsP P w s.heap k b) (q : Q false s) : wpAny (model P w) A (ofAClassStatement 8 (.ref b)) Q E s := by
  have ty := hk.typeIs
  obtain ⟨o, items, n, ho, _, hd, hi⟩ := hk
  unfold ofAClassStatement
  refine wpAny_bind (wpAny_typeOf ty ?_)
  dsimp only
  have e : (("tuple" : String) == "tuple") = true := by decide
  simp only [e, if_true, Bool.not_true, Bool.false_eq_true, if_false]
  try refine wpAny_bind (wpAny_pure ?_)
  try simp only [Bool.not_true, Bool.false_eq_true, if_false]
  show wpAny _ _ (seqItems? (.ref b) >>= _) _ _ s
  refine wpAny_bind (wpAny_seqItems ho hd ?_)
  dsimp only
  refine wpAny_bind ?_
  show wpAny _ _ (forIn items _ _) _ _ s
  rw [← Array.forIn_toList]
  refine wpAny_forIn_list _ (fun left r z => r.1 = none ∧ z = s ∧ ∀ v ∈ left, Plain v) _ ?_ ?_ _ _ ⟨rfl, rfl, plains hi⟩
  · rintro v left r z ⟨_, rfl, all⟩
    rw [plain_class (all v List.mem_cons_self)]
    refine wpAny_bind (wpAny_pure ?_)
    simp only [Bool.false_eq_true, if_false]
    exact wpAny_pure ⟨rfl, rfl, fun u m => all u (List.mem_cons_of_mem _ m)⟩
  · rintro ⟨r1, r2⟩ z ⟨e1, rfl, _⟩
    simp only at e1
    subst e1
    exact wpAny_pure q
theorem hash_tup {Q : Bool → Shared → Prop} (hk : IsP P w s.heap k b) (q : ∀ c, Q c s) : wpAny (model P w) A (hashByValue 8 (.ref b)) Q E s := by
  have ty := hk.typeIs
  obtain ⟨o, items, n, ho, _, hd, hi⟩ := hk
  unfold hashByValue
  refine wpAny_bind (wpAny_specialOf ty PySem.F.slot_tuple_hash.lookup ?_)
  show wpAny _ _ (seqItems? (.ref b) >>= _) _ _ s
  refine wpAny_bind (wpAny_seqItems ho hd ?_)
  refine wpAny_bind ?_
  show wpAny _ _ (forIn items _ _) _ _ s
  rw [← Array.forIn_toList]
  refine wpAny_forIn_list _ (fun left r z => r.1 = none ∧ z = s ∧ ∀ v ∈ left, Plain v) _ ?_ ?_ _ _ ⟨rfl, rfl, plains hi⟩
  · rintro v left r z ⟨_, rfl, all⟩
    obtain ⟨c, e⟩ := plain_hash (all v List.mem_cons_self) 7
    rw [e]
    refine wpAny_bind (wpAny_pure ?_)
    cases c with
    | true =>
      simp only [Bool.not_true, Bool.false_eq_true, if_false]
      exact wpAny_pure ⟨rfl, rfl, fun u m => all u (List.mem_cons_of_mem _ m)⟩
    | false =>
      simp only [Bool.not_false, if_true]
      first
        | exact wpAny_pure (wpAny_pure (q _))
        | exact wpAny_bind (wpAny_pure (wpAny_pure (q _)))
        | exact wpAny_bind (wpAny_pure (wpAny_pure (wpAny_pure (q _))))
  · rintro ⟨r1, r2⟩ z ⟨e1, rfl, _⟩
    simp only at e1
    subst e1
    exact wpAny_pure (q _)
/-- a search among such tuples runs no code of the program's -/
theorem unseen {Q : Bool → Shared → Prop} (hk : IsP P w s.heap k b) {ys : List Value} (hy : ∀ y ∈ ys, ∃ j c, y = Value.ref c ∧ IsP P w s.heap j c) (q : Q false s) :
    wpAny (model P w) A (searchCouldBeSeen (.ref b) ys) Q E s := by
  unfold searchCouldBeSeen
  refine wpAny_bind ?_
  refine wpAny_forIn_list _ (fun left r z => r.1 = none ∧ z = s ∧ ∀ y ∈ left, ∃ j c, y = Value.ref c ∧ IsP P w s.heap j c) _ ?_ ?_ _ _ ⟨rfl, rfl, hy⟩
  · rintro v left r z ⟨_, rfl, all⟩
    obtain ⟨j, c, rfl, hc⟩ := all v List.mem_cons_self
    have more : ∀ y ∈ left, ∃ j c, y = Value.ref c ∧ IsP P w z.heap j c := fun u m => all u (List.mem_cons_of_mem _ m)
    dsimp only
    by_cases same : (b == c || (carriedByValue (.ref b) && carriedByValue (.ref c))) = true
    · exact wp_if_pos same (wpAny_pure ⟨rfl, rfl, more⟩)
    · refine wp_if_neg same (wpAny_bind (wpAny_eqIsQuiet_tuple hk ?_))
      simp only [Bool.not_true, Bool.false_eq_true, if_false]
      refine wpAny_bind (wpAny_eqIsQuiet_tuple hc ?_)
      simp only [Bool.not_true, Bool.false_eq_true, if_false]
      refine wpAny_bind (cls_tup hk ?_)
      simp only [Bool.false_eq_true, if_false]
      refine wpAny_bind (cls_tup hc ?_)
      simp only [Bool.false_eq_true, if_false]
      exact wpAny_pure ⟨rfl, rfl, more⟩
  · rintro ⟨r1, r2⟩ z ⟨e1, rfl, _⟩
    simp only at e1
    subst e1
    exact wpAny_pure q
end

/-! ### the set's table -/
/-- the entries of the members L, in the table's order -/
def entr (P : Program) (w : World) (L : List (Addr × List Key)) : List (Int × Value) := L.map fun m => (hsh P w m.2, Value.ref m.1)
/-- at a stands a set whose members, in the table's order, are L -/
structure PSet (P : Program) (w : World) (h : Heap) (a : Addr) (L : List (Addr × List Key)) (es : Array (Int × Value)) (ep : Nat) (t : SetTable) : Prop where
  ob : ∃ o, h.get? a = some o ∧ o.ExactSet ∧ o.data = .set es ep t
  en : es.toList = entr P w L
  tb : TabOk t (L.map fun m => hsh P w m.2)
  nd : (L.map (·.2)).Nodup
  mem : ∀ m ∈ L, IsP P w h m.2 m.1
  ld : w.params.followText "set-order" = true ∨ t.led = true
  rm : L.length * 5 < t.mask * 3
  few : L.length < 64
/-- where a search stands after so many steps -/
abbrev stp (P : Program) (w : World) (t : SetTable) (k : List Key) (n : Nat) : SetTable.Probe := nth t.mask (runAt t.mask (SetTable.bits (hsh P w k) % (t.mask + 1)) (SetTable.bits (hsh P w k))) n
abbrev wy (P : Program) (w : World) (t : SetTable) (k : List Key) (n : Nat) : Nat := way t.mask (hsh P w k) n
theorem nth_dummy (m : Nat) : ∀ (n : Nat) (p : SetTable.Probe), p.dummy = none → (nth m p n).dummy = none
  | 0, _, h => h
  | n + 1, p, h => nth_dummy m n (adv m p) (by
    unfold adv
    split <;> exact h)

section
variable {P : Program} {w : World} {A : Around} {E : Value → Shared → Prop} {s : Shared}
variable {a : Addr} {L : List (Addr × List Key)} {es : Array (Int × Value)} {ep : Nat} {t : SetTable}
theorem PSet.count (R : PSet P w s.heap a L es ep t) : es.size = L.length := by
  have e := congrArg List.length R.en
  unfold entr at e
  rwa [Array.length_toList, List.length_map] at e
theorem PSet.fits (R : PSet P w s.heap a L es ep t) : t.fits es.size = true := by
  have e1 := R.tb.sz
  rw [List.length_map] at e1
  have e2 := R.count
  have e3 := R.rm
  unfold SetTable.fits SetTable.fill
  rw [R.tb.dm, Bool.and_eq_true, beq_iff_eq, decide_eq_true_eq]
  show t.place.size = es.size ∧ t.place.size + 0 ≤ t.mask
  omega
theorem PSet.at_ (R : PSet P w s.heap a L es ep t) {i : Nat} {m : Addr × List Key} (h : L[i]? = some m) : es[i]? = some (hsh P w m.2, Value.ref m.1) := by
  rw [← Array.getElem?_toList, R.en]
  unfold entr
  rw [List.getElem?_map, h]
  rfl
theorem PSet.way_not (R : PSet P w s.heap a L es ep t) : ¬ t.gaveWay = true := by
  unfold SetTable.gaveWay
  rw [mask_odd R.tb.mok]
  decide

/-- the search, from the c-th step of its way on -/
theorem look_from (R : PSet P w s.heap a L es ep t) {x : Addr} {k : List Key} (hx : IsP P w s.heap k x) (hu : A.units < cLine) {K : Nat} (hKf : K < 10 * SetTable.turns t.mask)
    (hK : wy P w t k K ∉ t.place.toList) (hKb : ∀ c, c < K → wy P w t k c ∈ t.place.toList) {Q : SetFound → Shared → Prop}
    (yes : k ∈ L.map (·.2) → Q (.there none) s) (no : k ∉ L.map (·.2) → Q (.free (wy P w t k K) false) s) :
    ∀ (f c : Nat) (stand : Option SetTable.Probe), stand.getD (t.probeStart (hsh P w k)) = stp P w t k c → c ≤ K → K - c < f →
      (∀ (i : Nat) m, L[i]? = some m → m.2 = k → ∃ c', c ≤ c' ∧ c' < K ∧ t.place.toList[i]? = some (wy P w t k c')) →
      wpAny (model P w) A (setSearchFrom a (.ref x) (hsh P w k) true f stand) Q E s
  | 0, c, _, _, _, hf, _ => absurd hf (Nat.not_lt_zero _)
  | f + 1, c, stand, hst, hc, hf, ahead => by
    obtain ⟨o, ho, hex, hd⟩ := R.ob
    rw [setSearchFrom_succ]
    refine wpAny_bind (wpAny_setState_of ho hd R.fits ?_)
    dsimp only
    refine wp_if_neg R.way_not ?_
    try refine wpAny_bind (wpAny_pure ?_)
    have dum : (stp P w t k c).dummy = none := nth_dummy t.mask c _ rfl
    have sh : ∀ q, nth t.mask (stp P w t k c) q = stp P w t k (c + q) := fun q => (nth_add t.mask c _ q).symm
    have shj : ∀ q, (nth t.mask (stp P w t k c) q).j = wy P w t k (c + q) := fun q => congrArg SetTable.Probe.j (sh q)
    have back : c + (K - c) = K := by omega
    have spec := go_spec t R.tb.ris R.tb.dm (fun i => (es[i]?.map (·.1)).getD 0) (hsh P w k) (10 * SetTable.turns t.mask) (K - c) _ dum (by omega)
      (fun q hq => by rw [shj]; exact hKb (c + q) (by omega)) (by rw [shj, back]; exact hK)
    have hashOf : ∀ (i : Nat) m, L[i]? = some m → (es[i]?.map (·.1)).getD 0 = hsh P w m.2 := fun i m hm => by
      rw [R.at_ hm]
      rfl
    rcases spec with ⟨q, i, hq, hi, _, pass, met⟩ | ⟨pass, met⟩
    · have met' : t.probe (fun i => (es[i]?.map (·.1)).getD 0) (hsh P w k) (stand.getD (t.probeStart (hsh P w k))) = some (.candidate (wy P w t k (c + q)) i (stp P w t k (c + (q + 1)))) := by
        rw [hst, ← shj, ← sh]
        exact met
      rw [met']
      dsimp only
      rw [shj] at hi
      have hil : i < L.length := by
        have h1 : i < t.place.toList.length := (List.getElem?_eq_some_iff.mp hi).1
        have h2 := R.tb.sz
        rw [List.length_map] at h2
        rw [Array.length_toList] at h1
        omega
      obtain ⟨m, hm⟩ : ∃ m, L[i]? = some m := ⟨_, List.getElem?_eq_getElem hil⟩
      have hmem : m ∈ L := List.mem_of_getElem? hm
      have hslot : t.slot (wy P w t k (c + q)) = .live i := slot_live R.tb.ris hi
      have tail : wpAny (model P w) A (searchRest a (.ref x) (hsh P w k) true f es t (wy P w t k (c + q)) i (stp P w t k (c + (q + 1)))) Q E s := by
        unfold searchRest
        rw [R.at_ hm]
        dsimp only
        refine wpAny_bind (wpAny_holding (wpAny_eqBool_tuple hu (R.mem m hmem) hx ?_))
        refine wpAny_bind (wpAny_setState_of ho hd R.fits ?_)
        dsimp only
        by_cases same : m.2 = k
        · refine wp_if_pos (by simp [same]) (wpAny_pure (yes ?_))
          exact List.mem_map.mpr ⟨m, hmem, same⟩
        · refine wp_if_neg (by simp [same]) ?_
          try refine wpAny_bind (wpAny_pure ?_)
          rw [sameMem]
          dsimp only
          simp only [if_true, hslot, R.at_ hm]
          refine wpAny_bind (wpAny_isSame_ref_self (wpAny_bind (wpAny_pure ?_)))
          simp only [if_true]
          refine wp_if_neg (by simp [same]) ?_
          refine look_from R hx hu hKf hK hKb yes no f (c + (q + 1)) _ rfl (by omega) (by omega) fun i0 m0 h0 hk0 => ?_
          obtain ⟨c', a1, a2, a3⟩ := ahead i0 m0 h0 hk0
          refine ⟨c', ?_, a2, a3⟩
          rcases Nat.lt_trichotomy c' (c + q) with z | z | z
          · have jn : c + (c' - c) = c' := by omega
            exact absurd ((hashOf i0 m0 h0).trans (congrArg (hsh P w) hk0)) (pass (c' - c) i0 (by omega) (by rw [shj, jn]; exact a3))
          · rw [z] at a3
            have s0 := slot_live R.tb.ris a3
            rw [hslot] at s0
            injection s0 with s0
            rw [← s0, hm] at h0
            exact absurd ((congrArg Prod.snd (Option.some.inj h0)).trans hk0) same
          · omega
      by_cases hl : t.led = true
      · refine wp_if_neg (by simp [hl]) ?_
        try refine wpAny_bind (wpAny_pure ?_)
        exact tail
      · refine wp_if_pos (by simp [hl]) (wpAny_bind (unseen hx (fun y hy => ?_) ?_))
        · obtain ⟨e, he, ee⟩ := List.mem_map.mp hy
          have he1 : e ∈ es ∧ e.1 = hsh P w k := by simpa using he
          have he2 : e ∈ es.toList := by simpa using he1.1
          rw [R.en] at he2
          obtain ⟨m2, hm2, e2⟩ := List.mem_map.mp he2
          exact ⟨m2.2, m2.1, by rw [← ee, ← e2], R.mem m2 hm2⟩
        · refine wp_if_neg (by decide) ?_
          try refine wpAny_bind (wpAny_pure ?_)
          exact tail
    · have met' : t.probe (fun i => (es[i]?.map (·.1)).getD 0) (hsh P w k) (stand.getD (t.probeStart (hsh P w k))) = some (.empty (wy P w t k K) none) := by
        have e2 : wy P w t k K = (nth t.mask (stp P w t k c) (K - c)).j := by rw [shj, back]
        rw [hst, e2]
        exact met
      rw [met']
      dsimp only
      refine wpAny_pure (no fun there => ?_)
      obtain ⟨m0, h0, hk0⟩ := List.mem_map.mp there
      obtain ⟨i0, hi0, e0⟩ := List.getElem_of_mem h0
      have h00 : L[i0]? = some m0 := by rw [List.getElem?_eq_getElem hi0, e0]
      obtain ⟨c', a1, a2, a3⟩ := ahead i0 m0 h00 hk0
      have jn : c + (c' - c) = c' := by omega
      exact pass (c' - c) i0 (by omega) (by rw [shj, jn]; exact a3) ((hashOf i0 m0 h00).trans (congrArg (hsh P w) hk0))
/-- the search that adding asks for -/
theorem look_at (R : PSet P w s.heap a L es ep t) {x : Addr} {k : List Key} (hx : IsP P w s.heap k x) (hu : A.units < cLine) {Q : SetFound → Shared → Prop}
    (yes : k ∈ L.map (·.2) → Q (.there none) s)
    (no : ∀ K, k ∉ L.map (·.2) → wy P w t k K ∉ t.place.toList → (∀ c, c < K → wy P w t k c ∈ t.place.toList) → Q (.free (wy P w t k K) false) s) :
    wpAny (model P w) A (setSearch a (.ref x) (hsh P w k) true) Q E s := by
  have hrm := R.rm
  obtain ⟨K, hKf, hK, hKb⟩ := R.tb.first (by rw [List.length_map]; omega) (hsh P w k)
  have big : K < 100000 := by
    have le : 10 * SetTable.turns t.mask ≤ 1420 := by
      unfold SetTable.turns
      rcases R.tb.mok with e | e | e <;> omega
    omega
  unfold setSearch
  refine look_from R hx hu hKf hK hKb yes (fun hn => no K hn hK hKb) 100000 0 none rfl (Nat.zero_le _) (by omega) fun i m hm hk => ?_
  have hi : (L.map fun m => hsh P w m.2)[i]? = some (hsh P w k) := by
    rw [List.getElem?_map, hm, ← hk]
    rfl
  have hil : i < t.place.toList.length := by
    have h1 : i < L.length := (List.getElem?_eq_some_iff.mp hm).1
    have h2 := R.tb.sz
    rw [List.length_map] at h2
    rw [Array.length_toList]
    omega
  have hj := List.getElem?_eq_getElem hil
  obtain ⟨c, hc, e⟩ := R.tb.before hK hi hj
  exact ⟨c, Nat.zero_le _, hc, hj.trans (congrArg some e.symm)⟩
end

/-! ### one member more -/
section
variable {P : Program} {w : World} {A : Around} {E : Value → Shared → Prop} {s : Shared}
variable {a : Addr} {L : List (Addr × List Key)} {es : Array (Int × Value)} {ep : Nat} {t : SetTable}
/-- a tuple stands while the set alone is written -/
theorem IsP_but {h h' : Heap} {k : List Key} {b : Addr} {o : Obj} (x : IsP P w h k b) (ho : h.get? a = some o) (hd : o.data = .set es ep t) (sb : Heap.SameBut a h h') : IsP P w h' k b := by
  obtain ⟨o', items, n, ho', hc, hd', hi⟩ := x
  have ne : b ≠ a := by
    rintro rfl
    rw [ho] at ho'
    cases ho'
    rw [hd] at hd'
    cases hd'
  exact ⟨o', items, n, (sb.2 b ne).trans ho', hc, hd', hi⟩
theorem IsP_keep {h h' : Heap} {k : List Key} {b : Addr} (x : IsP P w h k b) (kp : ∀ c o, h.get? c = some o → h'.get? c = some o) : IsP P w h' k b := by
  obtain ⟨o, items, n, ho, more⟩ := x
  exact ⟨o, items, n, kp b o ho, more⟩
theorem tab_plain {hs : List Int} (T : TabOk t hs) (c : Bool) : TabOk (if c = true then t else { t with plain := false }) hs := by
  cases c with
  | true => exact T
  | false => exact ⟨T.ris, T.dm, T.sz, T.mok, T.bd, T.reach⟩
/-- the entries laid anew in another order -/
theorem reorder (order : Array Nat) (hr : es.toList = entr P w L) (hp : order.toList.Perm (List.range L.length)) :
    ∃ L2, (order.filterMap (es[·]?)).toList = entr P w L2 ∧ L2.Perm L ∧ (L2.map fun m => hsh P w m.2) = order.toList.map fun i => (es.map (·.1)).getD i 0 := by
  have ent : ∀ i (h : i < L.length), es[i]? = some (hsh P w (L[i]).2, Value.ref (L[i]).1) := fun i h => by
    rw [← Array.getElem?_toList, hr]
    unfold entr
    rw [List.getElem?_map, List.getElem?_eq_getElem h]
    rfl
  have pick : ∀ l : List Nat, (∀ i ∈ l, i < L.length) → l.filterMap (fun i => es[i]?) = entr P w (l.filterMap fun i => L[i]?) ∧ ((l.filterMap fun i => L[i]?).map fun m => hsh P w m.2) = l.map fun i => (es.map (·.1)).getD i 0 := by
    intro l
    induction l with
    | nil => exact fun _ => ⟨rfl, rfl⟩
    | cons i l ih =>
      intro hl
      have hi := hl i List.mem_cons_self
      obtain ⟨e1, e2⟩ := ih fun j hj => hl j (List.mem_cons_of_mem _ hj)
      rw [List.filterMap_cons_some (ent i hi), List.filterMap_cons_some (List.getElem?_eq_getElem hi), e1, List.map_cons, e2]
      refine ⟨rfl, ?_⟩
      rw [List.map_cons]
      have e5 : (es.map (·.1))[i]? = some (hsh P w (L[i]).2) := by
        rw [Array.getElem?_map, ent i hi]
        rfl
      have e6 : (es.map (·.1)).getD i 0 = hsh P w (L[i]).2 := by simp [Array.getD_eq_getD_getElem?, e5]
      rw [e6]
  obtain ⟨e1, e2⟩ := pick order.toList fun i hi => List.mem_range.mp (hp.mem_iff.mp hi)
  refine ⟨order.toList.filterMap fun i => L[i]?, by rw [Array.toList_filterMap]; exact e1, ?_, e2⟩
  have all : ∀ n, n ≤ L.length → (List.range n).filterMap (fun i => L[i]?) = L.take n := by
    intro n
    induction n with
    | zero => exact fun _ => rfl
    | succ n ih =>
      intro hn
      have lt : n < L.length := hn
      rw [List.range_succ, List.filterMap_append, ih (Nat.le_of_lt lt), List.take_add_one, List.getElem?_eq_getElem lt, List.filterMap_cons_some (List.getElem?_eq_getElem lt)]
      rfl
  have e3 := all L.length (Nat.le_refl _)
  rw [List.take_length] at e3
  have z := hp.filterMap fun i => L[i]?
  rw [e3] at z
  exact z

/-- the table laid anew, larger -/
theorem relay {o : Obj} (ho : s.heap.get? a = some o) (hex : o.ExactSet) (hd : o.data = .set es ep t) (hen : es.toList = entr P w L) (hsz : t.place.size = es.size) (hdm : t.dummies = #[]) (hfl : es.size ≤ t.mask)
    (nd : (L.map (·.2)).Nodup) (mem : ∀ m ∈ L, IsP P w s.heap m.2 m.1) (ld : w.params.followText "set-order" = true ∨ t.led = true) (few : L.length < 64) {wanted M : Nat}
    (hw : SetTable.sizeAbove wanted - 1 = M) (hM : MaskOk M) (hw2 : SetTable.sizeAbove wanted ≤ 128) (hn : L.length * 5 < M * 3) {Q : Unit → Shared → Prop}
    (q : ∀ h' L' es' ep' t', Heap.SameBut a s.heap h' → PSet P w h' a L' es' ep' t' → L'.Perm L → Q () { s with heap := h' }) : wpAny (model P w) A (setRelay a wanted) Q E s := by
  have hsl : es.size = L.length := by
    have e := congrArg List.length hen
    unfold entr at e
    rwa [Array.length_toList, List.length_map] at e
  have hfits : t.fits es.size = true := by
    unfold SetTable.fits SetTable.fill
    rw [hdm, Bool.and_eq_true, beq_iff_eq, decide_eq_true_eq]
    show t.place.size = es.size ∧ t.place.size + 0 ≤ t.mask
    omega
  obtain ⟨t', order, e, hp, T, em, el, _, _⟩ := relaid_ok t (hs := es.map (·.1)) (wanted := wanted) hw hM (by rw [Array.size_map, hsl]; omega)
  rw [Array.size_map, hsl] at hp
  obtain ⟨L2, r1, r2, r3⟩ := reorder order hen hp
  rw [← r3] at T
  have hs2 : (order.filterMap (es[·]?)).size = es.size := by
    have h := congrArg List.length r1
    unfold entr at h
    rw [Array.length_toList, List.length_map, r2.length_eq] at h
    rw [h, hsl]
  rw [setRelay_eq]
  refine wpAny_bind (wpAny_setState_of ho hd hfits ?_)
  dsimp only
  refine wp_if_neg (by rw [sizeLine_eq]; omega) ?_
  try refine wpAny_bind (wpAny_pure ?_)
  rw [e]
  dsimp only
  refine wpAny_bind (wp_if_neg (by rw [hs2]; simp) ?_)
  try refine wpAny_bind (wpAny_pure ?_)
  refine wpAny_pure ?_
  dsimp only
  refine wpAny_storeSet_of ho hd ?_ (by rw [hs2, hsl, sizeLine_eq]; omega)
  have sb : Heap.SameBut a s.heap (s.heap.update a (Obj.putSet (order.filterMap (es[·]?)) t')) := Heap.SameBut.update ..
  refine q _ L2 (order.filterMap (es[·]?)) (ep + 1) t' sb ⟨⟨_, store_at ho hd, ⟨hex.1, hex.2.1, hex.2.2⟩, rfl⟩, r1, T, ?_, fun m hm => IsP_but (mem m (r2.mem_iff.mp hm)) ho hd sb, by rw [el]; exact ld, ?_, by rw [r2.length_eq]; exact few⟩ r2
  · exact (r2.map (·.2)).nodup_iff.mpr nd
  · rw [r2.length_eq, em]
    exact hn

/-- one member is added -/
theorem add_one (R : PSet P w s.heap a L es ep t) {x : Addr} {k : List Key} (hx : IsP P w s.heap k x) (hu : A.units < cLine) (hfew : L.length + 1 < 64) {Q : Bool → Shared → Prop}
    (q : ∀ c h' L' es' ep' t', Heap.SameBut a s.heap h' → PSet P w h' a L' es' ep' t' → (k ∈ L.map (·.2) → L' = L) → (k ∉ L.map (·.2) → L'.Perm ((x, k) :: L)) → Q c { s with heap := h' }) :
    wpAny (model P w) A (setAddHashed a (.ref x) (hsh P w k)) Q E s := by
  obtain ⟨o, ho, hex, hd⟩ := R.ob
  have hsl := R.count
  have hrm := R.rm
  unfold setAddHashed
  refine wpAny_holding ?_
  rw [show (100000 : Nat) = 99999 + 1 from rfl, setAddHashedIn_succ]
  refine wpAny_bind (wpAny_setState_of ho hd R.fits ?_)
  dsimp only
  refine wp_if_neg (by simp [byScan, Value.scannable]) ?_
  try refine wpAny_bind (wpAny_pure ?_)
  refine wpAny_bind (look_at R hx hu (fun hm => ?_) fun K hm hK hb => ?_)
  · dsimp only
    exact wpAny_pure (q false s.heap L es ep t (Heap.SameBut.refl a s.heap) R (fun _ => rfl) fun z => absurd hm z)
  · dsimp only
    refine wpAny_bind (wpAny_setState_of ho hd R.fits ?_)
    dsimp only
    obtain ⟨q1, q2, q3, q4, q5, _, _, _, q9⟩ := R.tb.put hK hb
    generalize hpt : t.put (wy P w t k K) = pt at q1 q3 q4 q5 q9 ⊢
    obtain ⟨t1, p⟩ := pt
    dsimp only at q1 q3 q4 q5 q9 ⊢
    subst q1
    -- whatever is known of the hash, the table is t1 but for that mark
    have rest : ∀ (t2 : SetTable), TabOk t2 ((L.map fun m => hsh P w m.2).take (SetTable.below t.place (wy P w t k K)) ++ hsh P w k :: (L.map fun m => hsh P w m.2).drop (SetTable.below t.place (wy P w t k K))) → t2.mask = t.mask → t2.led = t.led → t2.fill = (L.map fun m => hsh P w m.2).length + 1 →
        wpAny (model P w) A (do
          storeSet a (SetTable.insertAt es (SetTable.below t.place (wy P w t k K)) (hsh P w k, Value.ref x)) t2
          if !false && t2.tooFull then setRelay a (SetTable.grown (es.size + 1))
          return true) Q E s := by
      intro t2 q3 q4 q5 q9
      have hin : (SetTable.insertAt es (SetTable.below t.place (wy P w t k K)) (hsh P w k, Value.ref x)).toList = entr P w (L.take (SetTable.below t.place (wy P w t k K)) ++ (x, k) :: L.drop (SetTable.below t.place (wy P w t k K))) := by
        rw [SetTable.toList_insertAt, R.en]
        unfold entr
        rw [List.map_append, List.map_cons, List.map_take, List.map_drop]
      generalize hpp : SetTable.below t.place (wy P w t k K) = p at q2 q3 hin ⊢
      have pm : (L.take p ++ (x, k) :: L.drop p).Perm ((x, k) :: L) := put_perm L p (x, k)
      have hlen : (L.take p ++ (x, k) :: L.drop p).length = L.length + 1 := pm.length_eq
      have hhs : (L.take p ++ (x, k) :: L.drop p).map (fun m => hsh P w m.2) = (L.map fun m => hsh P w m.2).take p ++ hsh P w k :: (L.map fun m => hsh P w m.2).drop p := by
        rw [List.map_append, List.map_cons, List.map_take, List.map_drop]
      rw [← hhs] at q3
      have nd1 : ((L.take p ++ (x, k) :: L.drop p).map (·.2)).Nodup := by
        refine (pm.map (·.2)).nodup_iff.mpr ?_
        rw [List.map_cons]
        exact List.nodup_cons.mpr ⟨hm, R.nd⟩
      have hes : (SetTable.insertAt es p (hsh P w k, Value.ref x)).size = L.length + 1 := by
        have h := congrArg List.length hin
        unfold entr at h
        rwa [Array.length_toList, List.length_map, hlen] at h
      generalize SetTable.insertAt es p (hsh P w k, Value.ref x) = es1 at hin hes ⊢
      generalize L.take p ++ (x, k) :: L.drop p = L1 at pm hlen q3 nd1 hin
      refine wpAny_bind (wpAny_storeSet_of ho hd ?_ (by rw [hes, sizeLine_eq]; omega))
      have sb : Heap.SameBut a s.heap (s.heap.update a (Obj.putSet es1 t2)) := Heap.SameBut.update ..
      have ho1 := store_at (es' := es1) (t' := t2) ho hd
      generalize s.heap.update a (Obj.putSet es1 t2) = h1 at sb ho1 ⊢
      have mem1 : ∀ m ∈ L1, IsP P w h1 m.2 m.1 := fun m hp => by
        rcases List.mem_cons.mp (pm.mem_iff.mp hp) with e | hp
        · rw [e]
          exact IsP_but hx ho hd sb
        · exact IsP_but (R.mem m hp) ho hd sb
      have ld1 : w.params.followText "set-order" = true ∨ t2.led = true := by
        rw [q5]
        exact R.ld
      rw [List.length_map] at q9
      by_cases hf : t2.tooFull = true
      · first
          | refine wpAny_bind (wp_if_pos (by simp [hf]) ?_)
          | refine wp_if_pos (by simp [hf]) (wpAny_bind ?_)
        have full : (L.length + 1) * 5 ≥ t2.mask * 3 := by
          have h := hf
          unfold SetTable.tooFull at h
          rwa [decide_eq_true_eq, q9] at h
        rw [hsl]
        have hsz1 : t2.place.size = es1.size := by
          have h := q3.sz
          rw [List.length_map, hlen] at h
          rw [h, hes]
        have two : (t.mask = 7 ∧ L.length = 4) ∨ (t.mask = 31 ∧ L.length = 18) := by
          rw [q4] at full
          rcases R.tb.mok with e | e | e
          · rw [e] at full hrm
            exact .inl ⟨e, by omega⟩
          · rw [e] at full hrm
            exact .inr ⟨e, by omega⟩
          · rw [e] at full
            omega
        have go : ∀ M, SetTable.sizeAbove (SetTable.grown (L.length + 1)) - 1 = M → MaskOk M → SetTable.sizeAbove (SetTable.grown (L.length + 1)) ≤ 128 → (L.length + 1) * 5 < M * 3 →
            wpAny (model P w) A (setRelay a (SetTable.grown (L.length + 1))) (fun _ s' => wpAny (model P w) A (pure true) Q E s') E { s with heap := h1 } := fun M g1 g2 g3 g4 => by
          refine relay (s := { s with heap := h1 }) ho1 ⟨hex.1, hex.2.1, hex.2.2⟩ rfl hin hsz1 q3.dm (by rw [hes, q4]; rcases two with ⟨e, e2⟩ | ⟨e, e2⟩ <;> omega) nd1 mem1 ld1 (by rw [hlen]; exact hfew) g1 g2 g3 (by rw [hlen]; exact g4) ?_
          intro h2 L2 es2 ep2 t3 sb2 R2 pm2
          exact wpAny_pure (q true h2 L2 es2 ep2 t3 (sb.trans sb2) R2 (fun z => absurd z hm) fun _ => pm2.trans pm)
        rcases two with ⟨_, e2⟩ | ⟨_, e2⟩
        · exact go 31 (by rw [e2, size_20]) (.inr (.inl rfl)) (by rw [e2, size_20]; decide) (by omega)
        · exact go 127 (by rw [e2, size_76]) (.inr (.inr rfl)) (by rw [e2, size_76]; decide) (by omega)
      · first
          | refine wp_if_neg (by simp [hf]) ?_
          | refine wpAny_bind (wp_if_neg (by simp [hf]) (wpAny_pure ?_))
        refine wpAny_pure (q true h1 L1 es1 (ep + 1) t2 sb ⟨⟨_, ho1, ⟨hex.1, hex.2.1, hex.2.2⟩, rfl⟩, hin, q3, nd1, mem1, ld1, ?_, by rw [hlen]; exact hfew⟩ (fun z => absurd z hm) fun _ => pm)
        have h := hf
        unfold SetTable.tooFull at h
        rw [decide_eq_true_eq, q9] at h
        rw [hlen]
        omega
    have both : ∀ c : Bool, wpAny (model P w) A (do
          storeSet a (SetTable.insertAt es (SetTable.below t.place (wy P w t k K)) (hsh P w k, Value.ref x)) (if c = true then t1 else { t1 with plain := false })
          if !false && (if c = true then t1 else { t1 with plain := false }).tooFull then setRelay a (SetTable.grown (es.size + 1))
          return true) Q E s := fun c => by
      cases c with
      | true => exact rest t1 q3 q4 q5 q9
      | false => exact rest _ (tab_plain q3 false) q4 q5 q9
    by_cases hpl : t1.plain = true
    · first
        | exact wpAny_bind (wp_if_pos hpl (hash_tup hx fun c => both c))
        | exact wp_if_pos hpl (wpAny_bind (hash_tup hx fun c => both c))
    · first
        | exact wpAny_bind (wp_if_neg hpl (wpAny_pure (both true)))
        | exact wp_if_neg hpl (wpAny_bind (wpAny_pure (both true)))
        | exact wp_if_neg hpl (both true)
end

/-! ### set(xs) -/
/-- what the set has got of the first i items of ks -/
structure Has (ks : List (Addr × List Key)) (i : Nat) (L : List (Addr × List Key)) : Prop where
  sub : ∀ m ∈ L, m ∈ ks.take i
  all : ∀ m ∈ ks.take i, m.2 ∈ L.map (·.2)
  len : L.length ≤ i
theorem Has.old {ks L : List (Addr × List Key)} {i : Nat} {x : Addr × List Key} (g : Has ks i L) (h : ks[i]? = some x) (hm : x.2 ∈ L.map (·.2)) : Has ks (i + 1) L := by
  refine ⟨fun m hp => ?_, fun m hp => ?_, Nat.le_succ_of_le g.len⟩
  · rw [take_next h]
    exact List.mem_append_left _ (g.sub m hp)
  · rw [take_next h] at hp
    rcases List.mem_append.mp hp with z | z
    · exact g.all m z
    · rwa [List.mem_singleton.mp z]
theorem Has.new {ks L L' : List (Addr × List Key)} {i : Nat} {x : Addr × List Key} (g : Has ks i L) (h : ks[i]? = some x) (pm : L'.Perm (x :: L)) : Has ks (i + 1) L' := by
  refine ⟨fun m hp => ?_, fun m hp => ?_, by rw [pm.length_eq, List.length_cons]; exact Nat.succ_le_succ g.len⟩
  · rw [take_next h]
    rcases List.mem_cons.mp (pm.mem_iff.mp hp) with e | z
    · rw [e]
      exact List.mem_append_right _ (List.mem_singleton.mpr rfl)
    · exact List.mem_append_left _ (g.sub m z)
  · rw [(pm.map (·.2)).mem_iff, List.map_cons]
    rw [take_next h] at hp
    rcases List.mem_append.mp hp with z | z
    · exact List.mem_cons_of_mem _ (g.all m z)
    · rw [List.mem_singleton.mp z]
      exact List.mem_cons_self
abbrev emptySet (w : World) : Obj := { cls := .type "set", dict := none, data := .set #[] 0 (.fresh 0 0 (!w.params.followText "set-order")) }

section
variable {P : Program} {w : World} {A : Around} {E : Value → Shared → Prop} {s : Shared}
theorem PSet.move {h h' : Heap} {a : Addr} {L : List (Addr × List Key)} {es : Array (Int × Value)} {ep : Nat} {t : SetTable} (R : PSet P w h a L es ep t) (ha : ∀ o, h.get? a = some o → h'.get? a = some o) (hm : ∀ m ∈ L, IsP P w h' m.2 m.1) : PSet P w h' a L es ep t := by
  obtain ⟨o, ho, r⟩ := R.ob
  exact ⟨⟨o, ha o ho, r⟩, R.en, R.tb, R.nd, hm, R.ld, R.rm, R.few⟩
theorem pset_empty {h : Heap} {a : Addr} (ho : h.get? a = some (emptySet w)) : PSet P w h a [] #[] 0 (.fresh 0 0 (!w.params.followText "set-order")) where
  ob := ⟨_, ho, ⟨rfl, rfl, rfl⟩, rfl⟩
  en := rfl
  tb := ⟨List.Pairwise.nil, rfl, rfl, .inl rfl, fun x hx => (by cases hx), fun i h j hi => (by simp at hi)⟩
  nd := List.nodup_nil
  mem := fun m hm => (by cases hm)
  ld := by
    show _ ∨ (!w.params.followText "set-order") = true
    cases w.params.followText "set-order"
    · exact .inr rfl
    · exact .inl rfl
  rm := by
    show 0 * 5 < 7 * 3
    decide
  few := by
    show 0 < 64
    decide

/-- the loop behind set(..) -/
theorem fill_loop {I : Addr} {fp wr : List Addr} {G : Array GenState → Array GenState → Prop} {n : Nat} {Pv : Nat → Value → Prop} {St : Nat → Shared → Prop} {R : Result → Shared → Prop}
    (W : WalksS P w A.in1 I fp wr G n Pv St) (S : Addr) (hSf : S ∉ fp) (ks : List (Addr × List Key)) (hn : n = ks.length) (hfew : ks.length < 64) (hval : ∀ i v, Pv i v → ∃ m, ks[i]? = some m ∧ v = .ref m.1)
    (h0 : Heap) (hk : ∀ m ∈ ks, IsP P w h0 m.2 m.1) (hS0 : h0.get? S = none) (hw0 : ∀ b ∈ wr, h0.get? b = none) (hu : A.in1.units < cLine) :
    ∀ (k i : Nat) (s : Shared), n - i = k → i ≤ n → St i s → (∀ b o, h0.get? b = some o → s.heap.get? b = some o) → (∃ L es ep t, PSet P w s.heap S L es ep t ∧ Has ks i L) →
      (∀ s' L es ep t, Moved (S :: wr) G s s' → PSet P w s'.heap S L es ep t → Has ks n L → (∀ b o, h0.get? b = some o → s'.heap.get? b = some o) → R (.ok (.ret .none)) s') →
      codeAny (model P w) A (.builtin "set.update.loop" ⟨[.ref S, .ref I], []⟩) R s := by
  have nSw : S ∉ wr := fun h => hSf (W.sub _ h)
  have up : ∀ b ∈ wr, b ∈ S :: wr := fun b hb => List.mem_cons_of_mem _ hb
  have keepM : ∀ {s s' : Shared}, Moved wr G s s' → (∀ b o, h0.get? b = some o → s.heap.get? b = some o) → ∀ b o, h0.get? b = some o → s'.heap.get? b = some o := fun hm kp b o e =>
    hm.heap b o (fun hb => by rw [hw0 b hb] at e; cases e) (kp b o e)
  have inKs : ∀ {i : Nat} {L : List (Addr × List Key)}, Has ks i L → ∀ m ∈ L, m ∈ ks := fun g m hm => List.mem_of_mem_take (g.sub m hm)
  intro k
  induction k with
  | zero =>
    intro i s hk' hi hst kp ⟨L, es, ep, t, hS, g⟩ hR
    obtain rfl : i = n := by omega
    refine codeAny_builtin F.entry_set_update_loop ?_
    rw [Around.under_plainId F.plain_set_update_loop _]
    show wpAny _ A.in1 (pyNext (.ref I) >>= _) _ _ s
    refine wpAny_bind (W.done s _ _ hst fun s' hm => ?_)
    show wpAny _ A.in1 (ret Value.none) _ _ s'
    have kp' := keepM hm kp
    exact wpAny_pure (hR s' L es ep t (hm.mono up) (hS.move (fun o e => hm.heap S o nSw e) fun m hp => IsP_keep (hk m (inKs g m hp)) kp') g kp')
  | succ k ih =>
    intro i s hk' hi hst kp ⟨L, es, ep, t, hS, g⟩ hR
    have hlt : i < n := by omega
    refine codeAny_builtin F.entry_set_update_loop ?_
    rw [Around.under_plainId F.plain_set_update_loop _]
    show wpAny _ A.in1 (pyNext (.ref I) >>= _) _ _ s
    refine wpAny_bind (W.item i s _ _ hlt hst fun v s' hP hst' hm => ?_)
    obtain ⟨m, hp, rfl⟩ := hval i v hP
    have kp' := keepM hm kp
    have hS' : PSet P w s'.heap S L es ep t := hS.move (fun o e => hm.heap S o nSw e) fun q hq => IsP_keep (hk q (inKs g q hq)) kp'
    have hx : IsP P w s'.heap m.2 m.1 := IsP_keep (hk m (List.mem_of_getElem? hp)) kp'
    show wpAny _ A.in1 (holding [Value.ref m.1] (setAdd S (.ref m.1)) >>= _) _ _ s'
    refine wpAny_bind (wpAny_holding ?_)
    unfold setAdd
    refine wpAny_holding (wpAny_bind (wpAny_pyHash_tuple hu hx ?_))
    refine add_one (s := { s' with toks := s'.toks + (m.2.length + 1) }) hS' hx hu (by have := g.len; omega) fun c h' L' es' ep' t' sb hS2 c1 c2 => ?_
    have g' : Has ks (i + 1) L' := by
      rcases Classical.em (m.2 ∈ L.map (·.2)) with z | z
      · rw [c1 z]
        exact g.old hp z
      · exact g.new hp (c2 z)
    have kp2 : ∀ b o, h0.get? b = some o → h'.get? b = some o := fun b o e => (sb.2 b (fun z => by rw [z, hS0] at e; cases e)).trans (kp' b o e)
    refine wpAny_pure ⟨plainId_quiet F.plain_set_update_loop _, ih (i + 1) _ (by omega) hlt (W.frame _ s' _ _ hst' (Nat.le_add_right _ _) fun b hb o e => ?_) kp2 ⟨L', es', ep', t', hS2, g'⟩ fun s'' L2 es2 ep2 t2 hm'' hS'' g'' kp'' => ?_⟩
    · rw [sb.2 b (fun h : b = S => hSf (by rw [← h]; exact hb))]
      exact e
    · refine hR s'' L2 es2 ep2 t2 (Moved.trans W.gtrans ((hm.mono up).then_heap (Nat.le_add_right _ _) fun b o hb e => ?_) hm'') hS'' g'' kp''
      rw [sb.2 b (fun h : b = S => hb (by rw [h]; exact List.mem_cons_self))]
      exact e

set_option maxRecDepth 100000 in
set_option maxHeartbeats 8000000 in
/-- set(xs), xs a list of such tuples -/
theorem call_set {l : Addr} {items : Array Value} (ks : List (Addr × List Key)) {Q : Value → Shared → Prop} (hh : A.handled = none) (hl : s.heap.IsList l items) (hit : items.toList = ks.map fun m => Value.ref m.1)
    (hk : ∀ m ∈ ks, IsP P w s.heap m.2 m.1) (hfew : ks.length < 64) (hu : A.units + 3 < cLine)
    (q : ∀ (h' : Heap) (tk : Nat) L es ep t, PSet P w h' s.heap.objs.size L es ep t → Has ks ks.length L → (∀ b o, s.heap.get? b = some o → h'.get? b = some o) → Q (.ref s.heap.objs.size) { s with heap := h', toks := tk }) :
    wpAny (model P w) A (call (.type "set") [.ref l]) Q E s := by
  have isz : items.size = ks.length := by
    have e := congrArg List.length hit
    rwa [Array.length_toList, List.length_map] at e
  obtain ⟨c, tl, hmro⟩ := F.called_set.mro
  have hmade := F.called_set.made
  have hsub := F.called_set.sub
  refine wpAny_call (codeAny_of_tree ?_)
  show wpAny _ _ (callAny (.type "set") _) _ _ _
  refine wpAny_pure ⟨Code.quiet_builtin _ (by decide +kernel), codeAny_builtin F.entry_type_call ?_⟩
  rw [Around.under_plain (weight_type_call_type "set" [.ref l] []) rfl]
  have h1 := F.called_set.notType
  have h2 := F.called_set.canCreate
  have hct := F.typeCall_set_1 (.ref l)
  repeat (any_goals (first | assumption | wp_step))
  refine codeAny_mono (code_set_led1 (.ref l) (E := E) (Q₁ := fun obj z => obj = .ref s.heap.objs.size ∧ z = { s with heap := s.heap.push (emptySet w) }) ⟨rfl, rfl⟩) fun r z hr => ?_
  cases r with
  | error e => exact hr
  | ok fl =>
    cases fl with
    | ret obj =>
      obtain ⟨rfl, rfl⟩ := hr
      have hS : (s.heap.push (emptySet w)).get? s.heap.objs.size = some (emptySet w) := Heap.get?_push_size _ rfl
      have hT : Shared.TypeIs { s with heap := s.heap.push (emptySet w) } (.ref s.heap.objs.size) "set" := ⟨_, hS, rfl⟩
      have hli := F.called_set.init.lookup
      have hbi := F.called_set.init.bind (.ref s.heap.objs.size)
      repeat (any_goals (first | assumption | wp_step))
      refine codeAny_mono (codeAny_call_builtin (R := wants (fun r z => r = .none ∧ ∃ h' tk L es ep t, z = { s with heap := h', toks := tk } ∧ PSet P w h' s.heap.objs.size L es ep t ∧ Has ks ks.length L ∧
          (∀ b o, s.heap.get? b = some o → h'.get? b = some o)) E) F.called_set.init.plain F.entry_set_init (check_set_init_1 hT ?_)) fun r2 z2 hr2 => ?_
      · obtain ⟨⟨ocls, odict, odata, oslots⟩, hol, hcl, nl, hdl⟩ := hl
        simp only at hcl hdl
        subst hcl
        subst hdl
        have hol' : (s.heap.push (emptySet w)).get? l = some { cls := .type "list", dict := odict, data := .seq items nl, slots := oslots } := Heap.get?_push_of_some _ hol
        have hsls := F.sub_list_set
        have hslf := F.sub_list_frozenset
        have hne : (Value.type "list" == Value.type "dict") = false := by decide
        have hl1 : (s.heap.push (emptySet w)).IsList l items := ⟨_, hol', rfl, nl, rfl⟩
        unfold Builtin.«set.__init__» noKeywords Builtin.Frozenset.updateFrom
        generalize hPI : pyIter = PI
        wp_walk
        subst hPI
        refine wpAny_pyIter_list hl1 ?_
        refine wpAny_bind (wpAny_runValue ?_)
        have lS : l < s.heap.objs.size := Heap.lt_size hol
        have hh3 : A.in1.in1.in1.handled = none := by simp [hh]
        have hneI : l ≠ (s.heap.push (emptySet w)).objs.size := by
          rw [Heap.size_push]
          exact Nat.ne_of_lt (Nat.lt_succ_of_lt lS)
        have hSf : s.heap.objs.size ∉ [(s.heap.push (emptySet w)).objs.size, l] := by
          rw [Heap.size_push]
          simp only [List.mem_cons, List.mem_singleton, List.not_mem_nil, or_false, not_or]
          exact ⟨Nat.ne_of_lt (Nat.lt_succ_self _), Nat.ne_of_gt lS⟩
        have hval : ∀ (i : Nat) (v : Value), items[i]? = some v → ∃ m, ks[i]? = some m ∧ v = .ref m.1 := fun i v hv => by
          have e : items.toList[i]? = some v := by
            rw [Array.getElem?_toList]
            exact hv
          rw [hit, List.getElem?_map] at e
          cases hq : ks[i]? with
          | none =>
            rw [hq] at e
            cases e
          | some m =>
            rw [hq] at e
            exact ⟨m, rfl, (Option.some.inj e).symm⟩
        have noneAt : ∀ b, s.heap.objs.size ≤ b → s.heap.get? b = none := fun b hb => by
          cases e : s.heap.get? b with
          | none => rfl
          | some o => exact absurd (Nat.lt_of_lt_of_le (Heap.lt_size e) hb) (Nat.lt_irrefl _)
        refine fill_loop ((Walks.list hh3 _ l hneI items).toS) s.heap.objs.size hSf ks isz hfew hval s.heap hk (noneAt _ (Nat.le_refl _)) (fun b hb => noneAt b (by
            rw [List.mem_singleton.mp hb, Heap.size_push]
            exact Nat.le_succ _)) hu (items.size - 0) 0 _ (by omega) (Nat.zero_le _)
          ⟨⟨_, Heap.get?_push_size _ rfl, rfl, rfl⟩, (hl1.push _)⟩ (fun b o e => Heap.get?_push_of_some _ (Heap.get?_push_of_some _ e)) ?st ?out
        case st =>
          have there : ((s.heap.push (emptySet w)).push { cls := .type "list_iterator", data := .fields #[.ref l, .int 0 0] }).get? s.heap.objs.size = some (emptySet w) := Heap.get?_push_of_some _ hS
          exact ⟨[], #[], 0, _, pset_empty there, ⟨fun m hm => (by cases hm), fun m hm => (by simp at hm), Nat.le_refl _⟩⟩
        case out =>
          intro z L es ep t hm hS' g' kp
          obtain ⟨h', g2, d', tk', os'⟩ := z
          have eg : g2 = s.gens := hm.gens
          have ed : d' = s.drawn := hm.drawn
          have eo : os' = s.os := hm.os
          subst eg
          subst ed
          subst eo
          show wpAny _ _ _ _ _ _
          refine wpAny_pure ?_
          show wpAny _ _ (ret Value.none) _ _ _
          rw [isz] at g'
          exact wpAny_pure ⟨rfl, h', tk', L, es, ep, t, rfl, hS', g', kp⟩
      · cases r2 with
        | error e => exact hr2
        | ok fl2 =>
          cases fl2 with
          | ret r =>
            obtain ⟨rfl, h', tk, L, es, ep, t, rfl, hS', g', hk'⟩ := hr2
            repeat (any_goals (first | assumption | wp_step))
            exact q _ _ _ _ _ _ hS' g' hk'
          | _ => exact hr2.elim
    | _ => exact hr.elim
end
end Rq

/-! sorted(set(xs)) of pairs of a text and an int: one list, whatever the set's order was. -/
namespace Rq
open PySem PySem.Spec PyProof.Rows L2

/-! ### the order of pairs, and the one sorted list -/
abbrev Nm := Str × Int
def encN (p : Nm) : PyData := .tuple [.str p.1, .int p.2]
def leN : Nm → Nm → Bool := PySem.W.dataLe false encN
theorem leN_lt (p q : Nm) : leN p q = !(if q.1 = p.1 then decide (q.2 < p.2) else decide (q.1.cps.toList < p.1.cps.toList)) := by
  show (!PySem.W.dataLt (encN q) (encN p)) = _
  unfold encN
  rw [PySem.W.dataLt_pair (by simp [PySem.W.alike]) (by simp [PySem.W.alike]), PySem.W.dataLt_str, PySem.W.dataLt_int]
  by_cases h1 : q.1 = p.1
  · by_cases h2 : q.2 = p.2
    · simp [PyData.eqv, h1, h2]
    · simp [PyData.eqv, h1, h2]
  · simp [PyData.eqv, h1]
theorem leN_total : PySem.W.TotalLe leN := by
  unfold leN PySem.W.dataLe
  exact PySem.W.sortLe_total _ _ _
theorem leN_anti (p q : Nm) (h1 : leN p q = true) (h2 : leN q p = true) : p = q := by
  rw [leN_lt] at h1 h2
  by_cases e : q.1 = p.1
  · rw [if_pos e] at h1
    rw [if_pos e.symm] at h2
    simp only [Bool.not_eq_true', decide_eq_false_iff_not] at h1 h2
    exact Prod.ext e.symm (by omega)
  · rw [if_neg e] at h1
    rw [if_neg (fun z => e z.symm)] at h2
    simp only [Bool.not_eq_true', decide_eq_false_iff_not] at h1 h2
    exact absurd (PySem.W.str_of_cps (List.le_antisymm h2 h1)).symm (fun z => e z.symm)
/-- each once -/
def once : List Nm → List Nm
  | [] => []
  | x :: r => if x ∈ r then once r else x :: once r
theorem mem_once {x : Nm} : ∀ {l : List Nm}, x ∈ once l ↔ x ∈ l
  | [] => Iff.rfl
  | y :: r => by
    unfold once
    split
    · rename_i h
      rw [mem_once, List.mem_cons]
      exact ⟨.inr, fun z => z.elim (fun e => e ▸ h) id⟩
    · rw [List.mem_cons, List.mem_cons, mem_once]
theorem once_nodup : ∀ l : List Nm, (once l).Nodup
  | [] => List.nodup_nil
  | y :: r => by
    unfold once
    split
    · exact once_nodup r
    · rename_i h
      exact List.nodup_cons.mpr ⟨fun z => h (mem_once.mp z), once_nodup r⟩
/-- sorted(set(l)) -/
def canon (l : List Nm) : List Nm := (once l).mergeSort leN
theorem canon_of {l bs : List Nm} (nd : bs.Nodup) (h : ∀ x, x ∈ bs ↔ x ∈ l) : bs.mergeSort leN = canon l := by
  have pm : bs.Perm (once l) := (List.perm_ext_iff_of_nodup nd (once_nodup l)).mpr fun x => (h x).trans mem_once.symm
  exact PySem.W.Srt.the_of_perm leN (fun a b c => leN_total.trans a b c) (fun a b => Bool.or_eq_true_iff.mpr (leN_total.total a b)) leN_anti ((List.mergeSort_perm _ _).trans pm)
    (PySem.W.sort_pairwise leN_total bs)
/-- a list in the order of another's image -/
theorem pull {α β : Type} (f : α → β) : ∀ (vs : List β) (L : List α), vs.Perm (L.map f) → ∃ M : List α, M.Perm L ∧ vs = M.map f
  | [], L, h => by
    have e : L.map f = [] := List.Perm.nil_eq h ▸ rfl
    have e2 : L = [] := List.map_eq_nil_iff.mp e
    exact ⟨[], by rw [e2], rfl⟩
  | v :: vs, L, h => by
    obtain ⟨m, hm, e⟩ := List.mem_map.mp (h.mem_iff.mp List.mem_cons_self)
    obtain ⟨A, B, rfl⟩ := List.append_of_mem hm
    have mid : (A ++ m :: B).Perm (m :: (A ++ B)) := List.perm_middle
    have h2 : (v :: vs).Perm (v :: (A ++ B).map f) := by
      have z := h.trans (mid.map f)
      rw [List.map_cons, e] at z
      exact z
    obtain ⟨M, hM, eM⟩ := pull f vs (A ++ B) h2.cons_inv
    exact ⟨m :: M, (hM.cons m).trans mid.symm, by rw [List.map_cons, e, eM]⟩

/-! ### sorted(set) over the heap -/
/-- a pair as a key -/
def keyN (p : Nm) : List Key := [.inr p.1, .inl p.2]
theorem keyN_inj {p q : Nm} (h : keyN p = keyN q) : p = q := by
  have h1 : (Sum.inr p.1 : Key) = Sum.inr q.1 := (List.cons.inj h).1
  have h2 : (Sum.inl p.2 : Key) = Sum.inl q.2 := (List.cons.inj (List.cons.inj h).2).1
  exact Prod.ext (Sum.inr.inj h1) (Sum.inl.inj h2)
abbrev keysN (L : List (Addr × Nm)) : List (Addr × List Key) := L.map fun m => (m.1, keyN m.2)
section
variable {P : Program} {w : World} {A : Around} {E : Value → Shared → Prop} {s : Shared}
theorem reads_pair {h : Heap} {p : Nm} {b : Addr} (x : IsP P w h (keyN p) b) : Reads h (.ref b) (encN p) [] := by
  obtain ⟨o, items, n, ho, hc, hd, hi⟩ := x
  generalize hl : items.toList = vs at hi
  cases hi with
  | cons h1 t1 =>
    cases t1 with
    | cons h2 t2 =>
      cases t2
      have e1 : Value.isStrOf p.1 _ = true := h1
      have e2 : Value.isInt p.2 _ = true := h2
      obtain ⟨t, rfl⟩ := Value.isStrOf_shape e1
      obtain ⟨t', rfl⟩ := Value.isInt_shape e2
      refine Reads.tuple ho hc hd ?_
      rw [hl]
      exact ReadsAll.cons (Reads.str _ _) (ReadsAll.cons (Reads.int _ _) ReadsAll.nil)
theorem each_ref {h : Heap} : ∀ {M : List (Addr × Nm)}, PySem.W.EachIs (fun v (m : Addr × Nm) => v = Value.ref m.1) (M.map fun m => Value.ref m.1) M
  | [] => .nil
  | m :: M => .cons rfl (each_ref (h := h))
theorem each_reads {h : Heap} {a : Addr} : ∀ {M : List (Addr × Nm)}, (∀ m ∈ M, IsP P w h (keyN m.2) m.1) → PySem.W.EachIs (fun v (m : Addr × Nm) => ∃ as, Reads h v (encN m.2) as ∧ a ∉ as) (M.map fun m => Value.ref m.1) M
  | [], _ => .nil
  | m :: M, hm => .cons ⟨[], reads_pair (hm m List.mem_cons_self), fun z => nomatch z⟩ (each_reads fun x hx => hm x (List.mem_cons_of_mem _ hx))
theorem each_out {M : List (Addr × Nm)} {out : List Value} (h : PySem.W.EachIs (fun v (m : Addr × Nm) => v = Value.ref m.1) out M) : out = M.map fun m => Value.ref m.1 := by
  induction h with
  | nil => rfl
  | cons e _ ih => rw [List.map_cons, e, ih]
theorem depth_pair (p : Nm) : (encN p).depth ≤ 8 := by
  unfold encN
  simp [PyData.depth, PyData.depthAll]
theorem sort_set {a : Addr} {L : List (Addr × Nm)} {es : Array (Int × Value)} {ep : Nat} {t : SetTable} {Q : Value → Shared → Prop} (R : PSet P w s.heap a (keysN L) es ep t) (hh : A.handled = none) (hu : A.units + 16 < cLine)
    (q : ∀ s' p (c : Nat) (M : List (Addr × Nm)), (∀ b o, s.heap.get? b = some o → s'.heap.get? b = some o) → s'.gens = s.gens → s'.os = s.os → s.heap.objs.size ≤ p →
      s'.heap.get? p = some (seqObj "list" ((M.map fun m => Value.ref m.1).toArray) c) → M.Perm L → (∃ L1 : List (Addr × Nm), L1.Perm L ∧ M.map (·.2) = (L1.map (·.2)).mergeSort leN) → Q (.ref p) s') :
    wpAny (model P w) A (call (.builtin "sorted") [.ref a]) Q E s := by
  obtain ⟨o, ho, hex, hd⟩ := R.ob
  have hsz := R.count
  have hfew := R.few
  rw [List.length_map] at hsz hfew
  refine Calls.call_function_entry kind_sorted plain_sorted entry_sorted (args_sorted1 _) ?_
  unfold Builtin.«sorted»
  refine wpAny_bind (m := checkCount "sorted" 1 1 _) (wpAny_pure ?_)
  refine wpAny_bind (collect_set (A := A.in1) hh ⟨o, ho, hex.1, hd⟩ R.fits (by unfold scanBound; omega) R.tb.ris R.ld fun s1 vs k1 hz g1 o1 pm => ?_)
  have hes : es.toList.map (·.2) = L.map fun m => Value.ref m.1 := by
    rw [R.en]
    unfold entr
    rw [List.map_map, List.map_map]
    rfl
  rw [hes] at pm
  obtain ⟨L1, pL, rfl⟩ := pull _ _ _ pm
  have hl1 : L1.length < 64 := by rw [pL.length_eq]; exact hfew
  refine wpAny_bind (wpAny_newList ?_ (by rw [List.length_map, sizeLine_eq]; omega))
  have hoL : (s1.heap.push (seqObj "list" (L1.map fun m => Value.ref m.1).toArray 0)).get? s1.heap.objs.size = some (seqObj "list" (L1.map fun m => Value.ref m.1).toArray 0) := Heap.get?_push_size _ rfl
  have mem : ∀ m ∈ L1, IsP P w (s1.heap.push (seqObj "list" (L1.map fun m => Value.ref m.1).toArray 0)) (keyN m.2) m.1 := fun m hm =>
    IsP_keep (R.mem (m.1, keyN m.2) (List.mem_map.mpr ⟨m, pL.mem_iff.mp hm, rfl⟩)) fun b u e => Heap.get?_push_of_some _ (k1 b u e)
  refine wpAny_bind (wpAny_holding (PySem.W.list_sort_data (s := { s1 with heap := s1.heap.push (seqObj "list" (L1.map fun m => Value.ref m.1).toArray 0) }) (enc := fun m => encN m.2) (R := fun v (m : Addr × Nm) => v = Value.ref m.1) hoL (each_ref (h := s.heap)) (each_reads mem) ?_ ?_ ?_ ?_ fun out hlen ho => ?_))
  · exact PySem.W.AllAlike.of fun b b' => by simp [encN, PySem.W.alike, PySem.W.alikeAll]
  · exact PySem.W.Sortable.tuples fun b => ⟨_, _, rfl⟩
  · rw [sizeLine_eq]
    omega
  · intro m _
    have z := depth_pair m.2
    show A.units + 1 + 1 + (encN m.2).depth < cLine
    omega
  · have eo := each_out ho
    subst eo
    obtain ⟨c, hc⟩ := sortedHeap_at (vs := L1.map fun m => Value.ref m.1) (out := (List.map (fun m => Value.ref m.1) (L1.mergeSort (PySem.W.dataLe false fun m => encN m.2))).toArray) hoL
    refine wpAny_pure ⟨_, rfl, q _ s1.heap.objs.size c _ (fun b u e => ?_) g1 o1 hz hc ((List.mergeSort_perm _ _).trans pL) ⟨L1, pL, ?_⟩⟩
    · have e2 := k1 b u e
      have hlt := Heap.lt_size e2
      show (sortedHeap (s1.heap.push (seqObj "list" (L1.map fun m => Value.ref m.1).toArray 0)) s1.heap.objs.size (L1.map fun m => Value.ref m.1) (List.map (fun m => Value.ref m.1) (L1.mergeSort (PySem.W.dataLe false fun m => encN m.2))).toArray).get? b = some u
      rw [sortedHeap_old (Nat.ne_of_lt hlt) (by rw [size_push']; exact Nat.lt_succ_of_lt hlt)]
      exact Heap.get?_push_of_some _ e2
    · exact PySem.W.sort_maps (fun m : Addr × Nm => m.2) fun a _ b _ => rfl
end

/-! ### set(..) and sorted(..) as rules -/
/-- the set at a, but for its members' own tuples -/
def SetN (P : Program) (w : World) (h : Heap) (a : Addr) (L : List (Addr × Nm)) : Prop :=
  ∃ (es : Array (Int × Value)) (ep : Nat) (t : SetTable), (∃ o, h.get? a = some o ∧ o.ExactSet ∧ o.data = .set es ep t) ∧ es.toList = entr P w (keysN L) ∧ TabOk t ((keysN L).map fun m => hsh P w m.2) ∧ ((keysN L).map (·.2)).Nodup ∧
    (w.params.followText "set-order" = true ∨ t.led = true) ∧ (keysN L).length * 5 < t.mask * 3 ∧ (keysN L).length < 64
def SetNO (P : Program) (w : World) (a : Addr) (L : List (Addr × Nm)) : HO := .ext fun h => SetN P w h a L
theorem setN_ok {P : Program} {w : World} {H : Hp} {h : Heap} {a : Addr} {L : List (Addr × Nm)} (R : SetN P w h a L) : ObjOk P w H h a (SetNO P w a L) := by
  have ⟨_, _, _, ⟨o, ho, _⟩, _⟩ := R
  refine ⟨R, ⟨o, ho⟩, fun h1 h2 p kp => ?_⟩
  have ⟨es, ep, t, ⟨o', ho', r⟩, m⟩ := p
  exact ⟨es, ep, t, ⟨o', kp o' ho', r⟩, m⟩
theorem items_pair {P : Program} {w : World} {p : Nm} {us : List Value} (r : Vals [V.str p.1, V.int p.2] us) : ItemsAre (mixKind P w) (keyN p) us := by
  cases r with
  | cons r1 t1 =>
    cases t1 with
    | cons r2 t2 =>
      cases t2
      obtain ⟨a, rfl⟩ := r1
      obtain ⟨b, rfl⟩ := r2
      exact .cons (mixKind_str P w p.1 a) (.cons (mixKind_int P w p.2 b) .nil)
theorem refs_vals {α : Type} {f : α → Addr} : ∀ {ks : List α} {us : List Value}, Vals (ks.map fun p => V.ref (f p)) us → us = ks.map fun p => Value.ref (f p)
  | [], _, .nil => rfl
  | p :: ks, _, .cons r t => by
    cases r
    rw [refs_vals t]
    rfl
theorem vals_refs {α : Type} (f : α → Addr) : ∀ (ks : List α), Vals (ks.map fun p => V.ref (f p)) (ks.map fun p => Value.ref (f p))
  | [] => .nil
  | p :: ks => .cons rfl (vals_refs f ks)
section
variable {X : Cx}
theorem isP_of {pins : List (Addr × Obj)} {σ : L2.St} {H : Hp} {s : Shared} {b : Addr} {p : Nm} (I : Inv X pins σ H s) (h : SqT X.K H b [.str p.1, .int p.2]) : IsP X.prog X.w s.heap (keyN p) b := by
  obtain ⟨its, r, ⟨o, ho, hc, n, hd⟩, _⟩ := I.tuple h
  exact ⟨o, its.toArray, n, ho, hc, hd, by simpa using items_pair r⟩
/-- set(xs), xs a list of pairs -/
def rSetN (K : PySem.W.Frag) (P : Program) (w : World) : List V → Hp → VK → Prop := fun xs H Q => ∃ (l : Addr) (ps : List (Addr × Nm)), xs = [V.ref l] ∧ SqL K H l (ps.map fun p => V.ref p.1) ∧ (∀ p ∈ ps, SqT K H p.1 [.str p.2.1, .int p.2.2]) ∧ ps.length < 64 ∧
  ∀ a L, H a = none → (∀ m ∈ L, m ∈ ps) → (∀ x, x ∈ L.map (·.2) ↔ x ∈ ps.map (·.2)) → (L.map (·.2)).Nodup → Q (.ref a) (upd H a (SetNO P w a L))
theorem unkeys {ps : List (Addr × Nm)} : ∀ {L : List (Addr × List Key)}, (∀ m ∈ L, m ∈ keysN ps) → ∃ M : List (Addr × Nm), L = keysN M ∧ ∀ m ∈ M, m ∈ ps
  | [], _ => ⟨[], rfl, fun m hm => nomatch hm⟩
  | x :: L, h => by
    obtain ⟨p, hp, e⟩ := List.mem_map.mp (h x List.mem_cons_self)
    obtain ⟨M, e2, hM⟩ := unkeys fun m hm => h m (List.mem_cons_of_mem _ hm)
    refine ⟨p :: M, by rw [keysN, List.map_cons, e, e2], fun m hm => ?_⟩
    rcases List.mem_cons.mp hm with z | z
    · rw [z]
      exact hp
    · exact hM m z
theorem cr_setN (hc : X.calm = true) (hu : X.A.units + 64 < cLine) : CallR X (.type "set") (rSetN X.K X.prog X.w) := by
  intro pins s σ H xs us Q I r h
  obtain ⟨l, ps, rfl, hl, hk, hf, q⟩ := h
  rw [Vals.ref1 r]
  obtain ⟨its, rv, pl, hz⟩ := I.list hl
  have hn : H s.heap.objs.size = none := I.hok.fresh (Nat.le_refl _)
  refine call_set (P := X.prog) (w := X.w) (keysN ps) (I.ok.hd hc) pl.isList ?_ ?_ (by rw [List.length_map]; exact hf) (by omega) fun h' tk L es ep t R g kp => ?_
  · show its = _
    rw [refs_vals rv, List.map_map]
    rfl
  · intro m hm
    obtain ⟨p, hp, e⟩ := List.mem_map.mp hm
    rw [← e]
    exact isP_of I (hk p hp)
  · obtain ⟨M, rfl, hM⟩ := unkeys (ps := ps) (L := L) fun m hm => List.mem_of_mem_take (g.sub m hm)
    have two : ∀ (Z : List (Addr × Nm)) (x : Nm), keyN x ∈ (keysN Z).map (·.2) ↔ x ∈ Z.map (·.2) := fun Z x => by
      rw [List.map_map]
      constructor
      · intro z
        obtain ⟨m, hm, e⟩ := List.mem_map.mp z
        exact List.mem_map.mpr ⟨m, hm, keyN_inj e⟩
      · intro z
        obtain ⟨m, hm, e⟩ := List.mem_map.mp z
        exact List.mem_map.mpr ⟨m, hm, congrArg keyN e⟩
    refine ⟨.ref s.heap.objs.size, upd H s.heap.objs.size (SetNO X.prog X.w s.heap.objs.size M), I.laid (t' := tk) kp (Nat.le_refl _) (setN_ok ⟨es, ep, t, R.ob, R.en, R.tb, R.nd, R.ld, R.rm, R.few⟩), rfl, q _ M hn hM (fun x => ?_) ?_⟩
    · constructor
      · intro z
        obtain ⟨m, hm, e⟩ := List.mem_map.mp z
        exact List.mem_map.mpr ⟨m, hM m hm, e⟩
      · intro z
        obtain ⟨m, hm, e⟩ := List.mem_map.mp z
        have y := g.all (m.1, keyN m.2) (by rw [List.take_length]; exact List.mem_map.mpr ⟨m, hm, rfl⟩)
        exact (two M x).mp (e ▸ y)
    · have nd := R.nd
      rw [List.map_map] at nd
      refine nodup_of_map (f := keyN) ?_
      rw [List.map_map]
      exact nd
/-- sorted(xs), xs such a set -/
def rSortN (K : PySem.W.Frag) (P : Program) (w : World) : List V → Hp → VK → Prop := fun xs H Q => ∃ (a : Addr) (L : List (Addr × Nm)), xs = [V.ref a] ∧ H a = some (SetNO P w a L) ∧ (∀ m ∈ L, SqT K H m.1 [.str m.2.1, .int m.2.2]) ∧
  ∀ (M : List (Addr × Nm)) (p : Addr), M.Perm L → M.length < 64 → (∃ L1 : List (Addr × Nm), L1.Perm L ∧ M.map (·.2) = (L1.map (·.2)).mergeSort leN) → H p = none → Q (.ref p) (upd H p (.lst (M.map fun m => V.ref m.1)))
theorem cr_sortN (hc : X.calm = true) (hu : X.A.units + 64 < cLine) : CallR X (.builtin "sorted") (rSortN X.K X.prog X.w) := by
  intro pins s σ H xs us Q I r h
  obtain ⟨a, L, rfl, ha, hk, q⟩ := h
  have R0 : SetN X.prog X.w s.heap a L := (I.hok a _ ha).1
  obtain ⟨es, ep, t, h1, h2, h3, h4, h5, h6, h7⟩ := R0
  have mem : ∀ m ∈ keysN L, IsP X.prog X.w s.heap m.2 m.1 := fun m hm => by
    obtain ⟨p, hp, e⟩ := List.mem_map.mp hm
    rw [← e]
    exact isP_of I (hk p hp)
  rw [Vals.ref1 r]
  refine sort_set (L := L) ⟨h1, h2, h3, h4, mem, h5, h6, h7⟩ (I.ok.hd hc) (by omega) fun s' p c M kp g o hp hg pm srt => ?_
  rw [List.length_map] at h7
  have hfew : M.length < 64 := by
    rw [pm.length_eq]
    exact h7
  have hlen : (M.map fun m => V.ref m.1).length ≤ sizeLine := by
    rw [List.length_map, sizeLine_eq]
    omega
  have hn : H p = none := I.hok.fresh hp
  have J : Inv X pins σ (upd H p (.lst (M.map fun m => V.ref m.1))) { s with heap := s'.heap, gens := s'.gens, drawn := s'.drawn, toks := s'.toks } :=
    I.call (ch := []) (Un.laid kp hp hn) (I.hok.laid kp hp ⟨hlen, _, c, vals_refs _ M, hg⟩) (by rw [g]; exact I.bare) (fun _ z => nomatch z)
  have e : s' = { s with heap := s'.heap, gens := s'.gens, drawn := s'.drawn, toks := s'.toks } := by
    cases s'
    cases s
    cases o
    rfl
  rw [e]
  exact ⟨.ref p, _, J, rfl, q M p pm hfew srt hn⟩
end
end Rq

/-! Rules beyond the layer's: a family of readings, C.m(..) of an own class, a text repeated; data that stay. -/
namespace Rq
open PySem PySem.Spec PyProof.Rows L2

/-! ### readings made simpler, and families of readings -/
section
variable {X : Cx} {e : Expr} {es : List Expr}
theorem pe_imp {t u : TE} (h : PE X e t) (k : ∀ σ H Q, u σ H Q → t σ H Q) : PE X e u := ⟨fun pins s σ H Q I q => h.run pins s σ H Q I (k σ H Q q)⟩
theorem pe_fam {ι : Type} {t : ι → TE} (h : ∀ i, PE X e (t i)) : PE X e (fun σ H Q => ∃ i, t i σ H Q) := ⟨fun pins s σ H Q I ⟨i, q⟩ => (h i).run pins s σ H Q I q⟩
end
/-- a def that keeps each promise of a family -/
theorem fn_fam {P : Program} {w : World} {K : PySem.W.Frag} {mg : Str → Option Value} {base : Heap} {CX : CXT} {k : Nat} {f : Addr} {fd : FuncData} {ps : List Str} {ι : Type} {sp : ι → Sp} (F : ∀ i, FnOk P w K mg base CX k f fd ps (sp i)) :
    FnOk P w K mg base CX k f fd ps (fun vs H Q E => ∃ i, sp i vs H Q E) :=
  ⟨fun vs H Q E ⟨i, q⟩ => (F i).len vs H Q E q, fun A outer s H args us vs Q E hr he hb hv ⟨i, q⟩ => (F i).run A outer s H args us vs Q E hr he hb hv q⟩

/-! ### C.m(..), C a class of the program, m a plain def of it -/
structure OfCls (K : PySem.W.Frag) (C : Addr) (mc : Value) (m : Str) (f : Addr) : Prop where
  rd : ClX.CRead K C mc
  at_ : PySem.W.findCls K (.ref C) mc m = some (.val (.ref f))
def tOfCls (C : Addr) (sp : Sp) (E : XK) (t : TA) : TE := fun σ H Q => t σ H fun vs H1 => sp vs H1 Q E
section
variable {X : Cx} {CX : CXT} {k : Nat} {C f : Addr} {mc : Value} {fd : FuncData} {ps : List Str} {sp : Sp} {E : XK} {x m : Str} {p pos apos : Pos} {e : Expr} {es : List Expr} {t : TA}
theorem pe_ofcls {pl : Sem Bool} (c : OfCls X.K C mc m f) (F : FnOk X.prog X.w X.K X.mg X.base CX k f fd ps sp) (hr : Room k X.A) (hk : PySem.W.keepIn X.K (.ref f) = true) (hg : Gl X x) (hm : X.mg x = some (.ref C)) (hb : Binds X.K fd ps []) (hx : Passes CX X E) (ha : PA X (e :: es) t)
    (hdb : (x == ("__debug__" : Str)) = false := by decide)
    (hst : starEach (e :: es) X.env = (false, eval e X.env) :: starEach es X.env := by rfl) (hpl : (backTo pos (starEach es X.env)).any (·.1) = false := by rfl)
    (ht : eval (.Call (.Attribute (.Name x p) m apos) (e :: es) [] pos) X.env = (do
      let ov ← eval (.Name x p) X.env
      standAt apos.atName
      let (f, first) ← holding [ov] (getMethod ov m pl)
      callWith pos f first (backTo pos (starEach (e :: es) X.env)) (backToKw pos (keywordEach [] X.env))) := by rfl) :
    PE X (.Call (.Attribute (.Name x p) m apos) (e :: es) [] pos) (tOfCls C sp E t) := by
  refine ⟨fun pins s σ H Q I h => ?_⟩
  refine PySem.W.methodCall_KW (pl := pl) (ld_glob I hg hm ?_ hdb) ht
  refine PySem.W.method_cls I.kIn c.rd.ga (PySem.W.cls_value I.kIn c.rd.rd c.at_ rfl ?_)
  have I1 := I.tok (s.toks + 1)
  refine PySem.W.callWith_K (h₀ := X.base) I.ok.mod.kin hk (thn (ha.run pos pins _ σ H _ I1 h) fun us s1 ⟨vs, H1, I2, r, q⟩ => ⟨I2.kIn, ?_⟩) hst hpl
  exact run_fn F hr hb .nil hx I2 r (by rw [List.append_nil]; exact q)
end

/-! ### 'q' * n -/
theorem rep_size (c : Array Nat) : ∀ (n : Nat) (b : Array Nat), ((List.replicate n c).foldl (· ++ ·) b).size = b.size + n * c.size
  | 0, b => by simp
  | n + 1, b => by
    rw [List.replicate_succ, List.foldl_cons, rep_size c n, Array.size_append, Nat.add_mul]
    omega
/-- a text that may be compared -/
abbrev StrOk (x : Str) : Prop := PyData.strOk x = true
theorem rep_all {p : Nat → Bool} {c : Array Nat} (hc : c.all p = true) : ∀ (n : Nat) (b : Array Nat), b.all p = true → ((List.replicate n c).foldl (· ++ ·) b).all p = true
  | 0, b, hb => by simpa using hb
  | n + 1, b, hb => by
    rw [List.replicate_succ, List.foldl_cons]
    exact rep_all hc n (b ++ c) (by rw [Array.all_append, hb, hc]; rfl)
theorem good_app {x y : Str} (hx : StrOk x) (hy : StrOk y) : StrOk (x ++ y) := by
  have e : (x ++ y).cps = x.cps ++ y.cps := rfl
  show (x ++ y).cps.all (· < 0x110000) = true
  have a : x.cps.all (· < 0x110000) = true := hx
  have b : y.cps.all (· < 0x110000) = true := hy
  rw [e, Array.all_append, a, b]
  rfl
section
variable {X : Cx}
/-- a text of one sign, fewer than a thousand times: a text of known length -/
theorem op_repS : OpR X (binaryOp .Mult) (fun x y H Q => ∃ z n, x = .str z ∧ y = .int n ∧ z.length = 1 ∧ StrOk z ∧ 0 ≤ n ∧ n < 1000 ∧ ∀ y : Str, y.length = n.toNat → StrOk y → Q (.str y) H) := by
  intro pins s σ H x y v u Q I rx ry h
  obtain ⟨z, n, rfl, rfl, h1, hz, h0, hn, q⟩ := h
  obtain ⟨t, rfl⟩ := rx
  obtain ⟨t', rfl⟩ := ry
  have fin : ∀ (y : Str) (s' : Shared), Inv X pins σ H s' → y.length = n.toNat → StrOk y → ∀ tk, EP X pins σ Q (.str y tk) s' := fun y s' I' e g tk => ⟨.str y, H, I', ⟨tk, rfl⟩, q y e g⟩
  refine PySem.P.mul_str ?_ (fun _ _ => ?_) (fun _ _ => ?_) ?_
  · have a : ¬ n < -(2 ^ 63 : Int) := by omega
    have b : ¬ n ≥ 2 ^ 63 := by omega
    rw [decide_eq_false a, decide_eq_false b]
    rfl
  · rw [h1]
    have a : (1 : Int) ≤ (2 ^ 63 - 1) / n := by
      refine Int.le_ediv_of_mul_le (by omega) ?_
      omega
    omega
  · rw [h1, Nat.one_mul]
    unfold Builtin.Str.tooLong
    have a : n.toNat < 1000 := by omega
    have b : ¬ n.toNat > sizeLine := by
      rw [sizeLine_eq]
      omega
    simpa using b
  · split
    · have e : n = 0 := by omega
      subst e
      exact ⟨by decide, fin _ _ (I.tok _) rfl (by decide +kernel) _⟩
    · split
      · rename_i c
        have e : n = 1 := by
          rcases Bool.or_eq_true_iff.mp c with z | z
          · simpa using z
          · rw [h1] at z
            cases z
        subst e
        exact fin _ _ I (by rw [h1]; rfl) hz _
      · have e : (⟨(List.replicate n.toNat z.cps).foldl (· ++ ·) #[]⟩ : Str).length = n.toNat := by
          show ((List.replicate n.toNat z.cps).foldl (· ++ ·) #[]).size = n.toNat
          rw [rep_size]
          have y : z.cps.size = 1 := h1
          rw [y]
          simp
        refine ⟨?_, fin _ _ (I.tok _) e (rep_all (p := (· < 0x110000)) hz n.toNat #[] (by decide +kernel)) _⟩
        show (⟨(List.replicate n.toNat z.cps).foldl (· ++ ·) #[]⟩ : Str).length ≤ _
        rw [e, sizeLine_eq]
        omega
end

/-! ### data stay while the heap grows -/
theorem same_new {H : Hp} {p : Addr} {o : HO} (h : H p = none) : Same H (upd H p o) := fun b x e => by
  rw [upd_ne (ne_of_none e h)]
  exact e
/-- an object laid later may be written -/
theorem same_put {H H1 : Hp} {p : Addr} {o : HO} (s : Same H H1) (h : H p = none) : Same H (upd H1 p o) := fun b x e => by
  rw [upd_ne (ne_of_none e h)]
  exact s b x e
theorem Same.tup {K : PySem.W.Frag} {H H' : Hp} {a : Addr} {xs : List V} (e : Same H H') (h : SqT K H a xs) : SqT K H' a xs := by
  rcases h with (h | ⟨o, h⟩) | h
  · exact .inl (.inl (e _ _ h))
  · exact .inl (.inr ⟨o, e _ _ h⟩)
  · exact .inr h
section
variable {K : PySem.W.Frag} {H H' : Hp}
mutual
theorem dp_same (s : Same H H') : ∀ (d : PyData) (v : V), Dp K H v d → Dp K H' v d
  | .none, _, .non => .non
  | .bool _, _, .bl _ => .bl _
  | .int _, _, .int _ => .int _
  | .str _, _, .str _ => .str _
  | .list ds, _, .lst h t => .lst (s.seq h) (dpAll_same s ds _ t)
  | .tuple ds, _, .tup h t => .tup (Same.tup s h) (dpAll_same s ds _ t)
theorem dpAll_same (s : Same H H') : ∀ (ds : List PyData) (vs : List V), DpAll K H vs ds → DpAll K H' vs ds
  | [], _, .nil => .nil
  | d :: ds, _, .cons h t => .cons (dp_same s d _ h) (dpAll_same s ds _ t)
end
theorem dpAll_map {α : Type} {f : α → V} {g : α → PyData} : ∀ {l : List α}, (∀ x ∈ l, Dp K H (f x) (g x)) → DpAll K H (l.map f) (l.map g)
  | [], _ => .nil
  | x :: l, h => .cons (h x List.mem_cons_self) (dpAll_map fun y hy => h y (List.mem_cons_of_mem _ hy))
theorem dp_new {v : V} {d : PyData} {p : Addr} {o : HO} (h : Dp K H v d) (n : H p = none) : Dp K (upd H p o) v d := dp_same (same_new n) d v h
end

/-! ### slots, names of signs, tuples of them -/
/-- a slot's, or a sign's name: (pen, n, k) -/
abbrev S3 := Str × Int × Int
abbrev v3 (x : S3) : List V := [.str x.1, .int x.2.1, .int x.2.2]
def d3 (x : S3) : PyData := .tuple [.str x.1, .int x.2.1, .int x.2.2]
/-- the stroke's name in it -/
abbrev nmOf (x : S3) : Nm := (x.1, x.2.1)
section
variable {K : PySem.W.Frag} {H H' : Hp}
theorem dp3 {a : Addr} {x : S3} (h : H a = some (.tup (v3 x))) : Dp K H (.ref a) (d3 x) := .tup (.of h) (.cons (.str _) (.cons (.int _) (.cons (.int _) .nil)))
theorem dpN {a : Addr} {x : Nm} (h : H a = some (.tup [.str x.1, .int x.2])) : Dp K H (.ref a) (encN x) := .tup (.of h) (.cons (.str _) (.cons (.int _) .nil))
/-- at t a tuple of names of signs, each itself a tuple -/
structure NmAt (H : Hp) (t : Addr) (ps : List (Addr × S3)) : Prop where
  at_ : H t = some (.tup (ps.map fun p => V.ref p.1))
  each : ∀ p ∈ ps, H p.1 = some (.tup (v3 p.2))
  few : ps.length ≤ 9
theorem NmAt.same {t : Addr} {ps : List (Addr × S3)} (h : NmAt H t ps) (s : Same H H') : NmAt H' t ps := ⟨s _ _ h.at_, fun p hp => s _ _ (h.each p hp), h.few⟩
theorem dp_refs {ps : List (Addr × S3)} (h : ∀ p ∈ ps, H p.1 = some (.tup (v3 p.2))) : DpAll K H (ps.map fun p => V.ref p.1) ((ps.map (·.2)).map d3) := by
  rw [List.map_map]
  exact dpAll_map fun p hp => dp3 (h p hp)
theorem NmAt.dp {t : Addr} {ps : List (Addr × S3)} (h : NmAt H t ps) : Dp K H (.ref t) (.tuple ((ps.map (·.2)).map d3)) := .tup (.of h.at_) (dp_refs h.each)
end
end Rq

/-! The text by places, the addresses of its classes and defs, and what is known of them (printed by gen.py). -/
namespace Rq
open PySem PySem.Spec PyProof.Rows L2
def top (i : Nat) : Stmt := PySem.Challenge.pw_redquill_k02_what_a_stroke_makes.main.body.getD i (.Pass ⟨0, 0, 0, 0⟩)
abbrev sIS : Stmt := inClass (top 1) 0
abbrev sSlS : Stmt := inClass (top 1) 1
abbrev sToS : Stmt := inClass (top 1) 2
abbrev sAnS : Stmt := inClass (top 1) 3
abbrev sRow : Stmt := inClass (top 1) 5
abbrev sLea : Stmt := inClass (top 1) 6
abbrev sOwn : Stmt := inClass (top 1) 7
abbrev sIP : Stmt := inClass (top 2) 0
abbrev sSlP : Stmt := inClass (top 2) 1
abbrev sAnP : Stmt := inClass (top 2) 2
abbrev sAcP : Stmt := inClass (top 2) 3
abbrev sIN : Stmt := inClass (top 3) 0
abbrev sToN : Stmt := inClass (top 3) 1
abbrev sAcK : Stmt := inClass (top 4) 0
abbrev sID : Stmt := inClass (top 5) 0
abbrev sAcD : Stmt := inClass (top 5) 1
abbrev sIM : Stmt := inClass (top 6) 0
abbrev sSlM : Stmt := inClass (top 6) 1
abbrev sAnM : Stmt := inClass (top 6) 2
abbrev sAcM : Stmt := inClass (top 6) 3
abbrev sLCell : Stmt := top 8
abbrev sLStr : Stmt := top 9
abbrev sLPen : Stmt := top 10
abbrev sLSlot : Stmt := top 11
abbrev sLNames : Stmt := top 12
abbrev sLAct : Stmt := top 13
abbrev sLMade : Stmt := top 14
abbrev sLDue : Stmt := top 15
abbrev sLTold : Stmt := top 16
abbrev sLKinds : Stmt := top 17
abbrev sLaw : Stmt := top 18
/-- the five kinds of stroke: plain, put, strike, dress, move -/
inductive Kd where
  | s | p | k | d | m
  deriving DecidableEq
/-- where the classes and defs stand -/
structure Ad where
  (cS cP cN cK cD cM : Addr)
  (iS slS toS anS row lea own iP slP anP acP iN toN acK iD acD iM slM anM acM : Addr)
  (lCell lStr lPen lSlot lNames lAct lMade lDue lTold lKinds : Addr)
/-- a def as it stands behind the top, with its parameters -/
structure DefAt (K : PySem.W.Frag) (x qual : Str) (st : Stmt) (ps : List Str) (f : Addr) : Prop where
  ex : ∃ fd, Fun K x qual st f fd ∧ Binds K fd ps []
/-- what is known of a class of which strokes are made -/
structure ClF (K : PySem.W.Frag) (C : Addr) : Prop where
  cl : Cls K C
  makes : PySem.W.makesIn K C = true
  kp : PySem.W.keepIn K (.ref C) = true
  n_name : NoAttr K C "name"
  n_time : NoAttr K C "time"
  n_anchor : NoAttr K C "anchor"
  n_signs : NoAttr K C "signs"
  n_names : NoAttr K C "names"
  n_word : NoAttr K C "word"
  ca : PySem.W.findIn K (.ref C) "__class__" = some (some (.builtin "object.__class__"))
  ob : PySem.W.mroIn K C (.type "object") = some true
  ic : PySem.W.isClsIn K C = true
  ty : PySem.W.typeIn K (.ref C) = some (.type "type")
def Ad.f_init (A : Ad) : Kd → Addr
  | .s => A.iS
  | .p => A.iP
  | .k => A.iN
  | .d => A.iD
  | .m => A.iM
def Ad.f_slots (A : Ad) : Kd → Addr
  | .s => A.slS
  | .p => A.slP
  | .k => A.slS
  | .d => A.slS
  | .m => A.slM
def Ad.f_touched (A : Ad) : Kd → Addr
  | .s => A.toS
  | .p => A.toS
  | .k => A.toN
  | .d => A.toN
  | .m => A.toN
def Ad.f_anchors (A : Ad) : Kd → Addr
  | .s => A.anS
  | .p => A.anP
  | .k => A.anS
  | .d => A.anS
  | .m => A.anM
def Ad.f_row (A : Ad) : Kd → Addr
  | .s => A.row
  | .p => A.row
  | .k => A.row
  | .d => A.row
  | .m => A.row
def Ad.f_leans (A : Ad) : Kd → Addr
  | .s => A.lea
  | .p => A.lea
  | .k => A.lea
  | .d => A.lea
  | .m => A.lea
def Ad.f_own_slots (A : Ad) : Kd → Addr
  | .s => A.own
  | .p => A.own
  | .k => A.own
  | .d => A.own
  | .m => A.own
def Ad.f_act (A : Ad) : Kd → Addr
  | .s => A.cS
  | .p => A.acP
  | .k => A.acK
  | .d => A.acD
  | .m => A.acM
def Ad.cls (A : Ad) : Kd → Addr
  | .s => A.cS
  | .p => A.cP
  | .k => A.cK
  | .d => A.cD
  | .m => A.cM
structure Txt (K : PySem.W.Frag) (mg : Str → Option Value) (A : Ad) : Prop where
  d_iS : DefAt K "__init__" "Stroke.__init__" sIS ["self", "name", "time"] A.iS
  d_slS : DefAt K "slots" "Stroke.slots" sSlS ["self"] A.slS
  d_toS : DefAt K "touched" "Stroke.touched" sToS ["self"] A.toS
  d_anS : DefAt K "anchors" "Stroke.anchors" sAnS ["self"] A.anS
  d_row : DefAt K "row" "Stroke.row" sRow ["self"] A.row
  d_lea : DefAt K "leans" "Stroke.leans" sLea ["self"] A.lea
  d_own : DefAt K "own_slots" "Stroke.own_slots" sOwn ["self", "many"] A.own
  d_iP : DefAt K "__init__" "Put.__init__" sIP ["self", "name", "time", "anchor", "signs"] A.iP
  d_slP : DefAt K "slots" "Put.slots" sSlP ["self"] A.slP
  d_anP : DefAt K "anchors" "Put.anchors" sAnP ["self"] A.anP
  d_acP : DefAt K "act" "Put.act" sAcP ["self"] A.acP
  d_iN : DefAt K "__init__" "Naming.__init__" sIN ["self", "name", "time", "names"] A.iN
  d_toN : DefAt K "touched" "Naming.touched" sToN ["self"] A.toN
  d_acK : DefAt K "act" "Strike.act" sAcK ["self"] A.acK
  d_iD : DefAt K "__init__" "Dress.__init__" sID ["self", "name", "time", "names", "word"] A.iD
  d_acD : DefAt K "act" "Dress.act" sAcD ["self"] A.acD
  d_iM : DefAt K "__init__" "Move.__init__" sIM ["self", "name", "time", "names", "anchor"] A.iM
  d_slM : DefAt K "slots" "Move.slots" sSlM ["self"] A.slM
  d_anM : DefAt K "anchors" "Move.anchors" sAnM ["self"] A.anM
  d_acM : DefAt K "act" "Move.act" sAcM ["self"] A.acM
  d_lCell : DefAt K "_law_cell_at" "_law_cell_at" sLCell ["_law_script", "_law_k"] A.lCell
  g_lCell : mg "_law_cell_at" = some (.ref A.lCell)
  d_lStr : DefAt K "_law_stream" "_law_stream" sLStr ["_law_cell", "_law_many"] A.lStr
  g_lStr : mg "_law_stream" = some (.ref A.lStr)
  d_lPen : DefAt K "_law_pen" "_law_pen" sLPen ["_law_x"] A.lPen
  g_lPen : mg "_law_pen" = some (.ref A.lPen)
  d_lSlot : DefAt K "_law_slot" "_law_slot" sLSlot ["_law_x", "_law_y"] A.lSlot
  g_lSlot : mg "_law_slot" = some (.ref A.lSlot)
  d_lNames : DefAt K "_law_names" "_law_names" sLNames ["_law_xs"] A.lNames
  g_lNames : mg "_law_names" = some (.ref A.lNames)
  d_lAct : DefAt K "_law_act" "_law_act" sLAct ["_law_xs"] A.lAct
  g_lAct : mg "_law_act" = some (.ref A.lAct)
  d_lMade : DefAt K "_law_made" "_law_made" sLMade ["_law_name", "_law_time", "_law_act_here"] A.lMade
  g_lMade : mg "_law_made" = some (.ref A.lMade)
  d_lDue : DefAt K "_law_due" "_law_due" sLDue ["_law_name", "_law_act_here"] A.lDue
  g_lDue : mg "_law_due" = some (.ref A.lDue)
  d_lTold : DefAt K "_law_told" "_law_told" sLTold ["_law_stroke"] A.lTold
  g_lTold : mg "_law_told" = some (.ref A.lTold)
  d_lKinds : DefAt K "_law_kinds" "_law_kinds" sLKinds ["_law_stroke", "_law_word"] A.lKinds
  g_lKinds : mg "_law_kinds" = some (.ref A.lKinds)
  g_cS : mg "Stroke" = some (.ref A.cS)
  g_cP : mg "Put" = some (.ref A.cP)
  g_cN : mg "Naming" = some (.ref A.cN)
  g_cK : mg "Strike" = some (.ref A.cK)
  g_cD : mg "Dress" = some (.ref A.cD)
  g_cM : mg "Move" = some (.ref A.cM)
  cf : ∀ k, ClF K (A.cls k)
  m_init : ∀ k, Meth K (A.cls k) "__init__" (A.f_init k)
  m_slots : ∀ k, Meth K (A.cls k) "slots" (A.f_slots k)
  m_touched : ∀ k, Meth K (A.cls k) "touched" (A.f_touched k)
  m_anchors : ∀ k, Meth K (A.cls k) "anchors" (A.f_anchors k)
  m_row : ∀ k, Meth K (A.cls k) "row" (A.f_row k)
  m_leans : ∀ k, Meth K (A.cls k) "leans" (A.f_leans k)
  m_own_slots : ∀ k, Meth K (A.cls k) "own_slots" (A.f_own_slots k)
  m_act : ∀ k, k ≠ .s → Meth K (A.cls k) "act" (A.f_act k)
  oS : OfCls K A.cS (.type "type") "__init__" A.iS
  oN : OfCls K A.cN (.type "type") "__init__" A.iN
  cg : PySem.W.specialIn K (.builtin "object.__class__") "__get__" = some (some (.builtin "getset_descriptor.__get__"))
  ct : PySem.W.takesIn K (.builtin "object.__class__") = some true
  sub : ∀ a b, a ≠ b → a ≠ .s → PySem.W.subIn K (.ref (A.cls a)) (.ref (A.cls b)) = some (decide (b = .s))
  ne : ∀ a b, a ≠ b → A.cls a ≠ A.cls b
  z_len : mg "len" = none
  z_sorted : mg "sorted" = none
  z_set : mg "set" = none
  z_range : mg "range" = none
  z_list : mg "list" = none
  z_tuple : mg "tuple" = none
  z_isinstance : mg "isinstance" = none
end Rq

/-! What the defs promise. -/
namespace Rq
open PySem PySem.Spec PyProof.Rows L2

/-! ### a def that may be called, and its calls -/
structure Kp (P : Program) (w : World) (K : PySem.W.Frag) (mg : Str → Option Value) (base : Heap) (k : Nat) (f : Addr) (sp : Sp) : Prop where
  ex : ∃ (fd : FuncData) (ps : List Str), FnOk P w K mg base CX0 k f fd ps sp ∧ PySem.W.keepIn K (.ref f) = true ∧ Binds K fd ps []
section
variable {P : Program} {w : World} {K : PySem.W.Frag} {mg : Str → Option Value} {base : Heap} {k : Nat} {f : Addr} {sp sp' : Sp}
/-- by its body -/
theorem kp_of {x qual : Str} {st : Stmt} {N ps : List Str} (F : DefAt K x qual st ps f) (S : FnScope N ps (defScope st)) (len : ∀ vs H Q E, sp vs H Q E → vs.length = ps.length)
    (hbody : ∀ (fd : FuncData) (cdv : Value) (A : Around) (outer : List Env) (s : Shared) (H : Hp) (vs : List V) (Q : VK) (E : XK), Room k (A.deeper (envOfC qual (defScope st) s.heap.objs.size f cdv)) → sp vs H Q E →
      ∃ t, PSs (cxOf CX0 P w K mg base N qual (defScope st) f cdv A outer s H E).nox (defBody st) t ∧ t { nx := fun _ H' => Q .non H', rt := Q } (start N vs) H) : Kp P w K mg base (k + 1) f sp := by
  obtain ⟨fd, G, b⟩ := F.ex
  exact ⟨fd, ps, G.ok S len (hbody fd), G.kp, b⟩
theorem Kp.imp (c : Kp P w K mg base k f sp) (h : ∀ vs H Q E, sp' vs H Q E → sp vs H Q E) : Kp P w K mg base k f sp' := by
  obtain ⟨fd, ps, F, kp, b⟩ := c.ex
  exact ⟨fd, ps, F.imp h, kp, b⟩
theorem Kp.mono {j : Nat} (c : Kp P w K mg base j f sp) (h : j ≤ k) : Kp P w K mg base k f sp := by
  obtain ⟨fd, ps, F, kp, b⟩ := c.ex
  exact ⟨fd, ps, F.mono h, kp, b⟩
end
section
variable {X : Cx} {k j : Nat} {f C : Addr} {mc : Value} {x m : Str} {sp : Sp} {p pos apos : Pos} {e o : Expr} {es : List Expr} {ta : TE} {t : TA}
theorem pe_f (c : Kp X.prog X.w X.K X.mg X.base k f sp) (hm : X.mg x = some (.ref f)) (hr : Room j X.A) (hk : k ≤ j) (ha : PA X (e :: es) t) (hg : Gl X x := by rfl)
    (hdb : (x == ("__debug__" : Str)) = false := by decide) (he : starEach (e :: es) X.env = (false, eval e X.env) :: starEach es X.env := by rfl) (hpl : (backTo pos (starEach es X.env)).any (·.1) = false := by rfl) :
    PE X (.Call (.Name x p) (e :: es) [] pos) (tCall sp [] E0 t) := by
  obtain ⟨fd, ps, F, kp, b⟩ := c.ex
  exact pe_call F (hr.mono hk) hg hm kp b .nil pass0 ha hdb he hpl
theorem pe_m {pl : Sem Bool} (c : Kp X.prog X.w X.K X.mg X.base k f sp) (hc : Cls X.K C) (hm : Meth X.K C m f) (hr : Room j X.A) (hk : k ≤ j) (he : PE X o ta) (ha : PA X (e :: es) t)
    (hst : starEach (e :: es) X.env = (false, eval e X.env) :: starEach es X.env := by rfl) (hpl : (backTo pos (starEach es X.env)).any (·.1) = false := by rfl)
    (ht : eval (.Call (.Attribute o m apos) (e :: es) [] pos) X.env = (do
      let ov ← eval o X.env
      standAt apos.atName
      let (f, first) ← holding [ov] (getMethod ov m pl)
      callWith pos f first (backTo pos (starEach (e :: es) X.env)) (backToKw pos (keywordEach [] X.env))) := by rfl) :
    PE X (.Call (.Attribute o m apos) (e :: es) [] pos) (tMeth C m sp [] E0 ta t) := by
  obtain ⟨fd, ps, F, kp, b⟩ := c.ex
  exact pe_meth (pl := pl) he hc hm F (hr.mono hk) b .nil pass0 ha hst hpl ht
theorem pe_m0 {pl : Sem Bool} (c : Kp X.prog X.w X.K X.mg X.base k f sp) (hc : Cls X.K C) (hm : Meth X.K C m f) (hr : Room j X.A) (hk : k ≤ j) (he : PE X o ta)
    (ht : eval (.Call (.Attribute o m apos) [] [] pos) X.env = (do
      let ov ← eval o X.env
      standAt apos.atName
      let (f, first) ← holding [ov] (getMethod ov m pl)
      callWith pos f first (backTo pos (starEach [] X.env)) (backToKw pos (keywordEach [] X.env))) := by rfl) :
    PE X (.Call (.Attribute o m apos) [] [] pos) (tMeth C m sp [] E0 ta tNil) := by
  obtain ⟨fd, ps, F, kp, b⟩ := c.ex
  exact pe_meth0 (pl := pl) he hc hm F (hr.mono hk) b .nil pass0 ht
theorem pe_new (c : Kp X.prog X.w X.K X.mg X.base k f sp) (M : Mk X.K C f) (hm : X.mg x = some (.ref C)) (hr : Room j X.A) (hk : k + 1 ≤ j) (ha : PA X (e :: es) t) (hg : Gl X x := by rfl)
    (hdb : (x == ("__debug__" : Str)) = false := by decide) (he : starEach (e :: es) X.env = (false, eval e X.env) :: starEach es X.env := by rfl) (hpl : (backTo pos (starEach es X.env)).any (·.1) = false := by rfl) :
    PE X (.Call (.Name x p) (e :: es) [] pos) (tMake C sp [] E0 t) := by
  obtain ⟨fd, ps, F, kp, b⟩ := c.ex
  exact pe_make M F (hr.mono hk) hg hm b .nil pass0 ha hdb he hpl
theorem pe_of {pl : Sem Bool} (c : Kp X.prog X.w X.K X.mg X.base k f sp) (oc : OfCls X.K C mc m f) (hm : X.mg x = some (.ref C)) (hr : Room j X.A) (hk : k ≤ j) (ha : PA X (e :: es) t) (hg : Gl X x := by rfl)
    (hdb : (x == ("__debug__" : Str)) = false := by decide)
    (hst : starEach (e :: es) X.env = (false, eval e X.env) :: starEach es X.env := by rfl) (hpl : (backTo pos (starEach es X.env)).any (·.1) = false := by rfl)
    (ht : eval (.Call (.Attribute (.Name x p) m apos) (e :: es) [] pos) X.env = (do
      let ov ← eval (.Name x p) X.env
      standAt apos.atName
      let (f, first) ← holding [ov] (getMethod ov m pl)
      callWith pos f first (backTo pos (starEach (e :: es) X.env)) (backToKw pos (keywordEach [] X.env))) := by rfl) :
    PE X (.Call (.Attribute (.Name x p) m apos) (e :: es) [] pos) (tOfCls C sp E0 t) := by
  obtain ⟨fd, ps, F, kp, b⟩ := c.ex
  exact pe_ofcls (pl := pl) oc F (hr.mono hk) kp hg hm b pass0 ha hdb hst hpl ht
end

/-! ### attributes -/
theorem lk_ne {f g : Str} {v : V} {fs : List (Str × V)} (h : ¬ g = f) : (putF f v fs).lookup g = fs.lookup g := by rw [lookup_putF, if_neg h]
theorem lk_eq {f : Str} {v : V} {fs : List (Str × V)} : (putF f v fs).lookup f = some v := by rw [lookup_putF, if_pos rfl]
theorem putF_len (f : Str) (v : V) : ∀ fs : List (Str × V), (putF f v fs).length ≤ fs.length + 1
  | [] => Nat.le_refl _
  | (g, x) :: r => by
    unfold putF
    split
    · exact Nat.le_succ _
    · exact Nat.succ_le_succ (putF_len f v r)
/-- what __init__ of Stroke leaves -/
def fN (n t : V) : List (Str × V) := putF "time" t (putF "name" n [])
theorem fN_len (n t : V) : (fN n t).length ≤ 2 := Nat.le_trans (putF_len _ _ _) (Nat.succ_le_succ (putF_len _ _ _))

/-! ### what a stroke does -/
inductive AD where
  | non
  | put (an : Addr × S3) (z : Str)
  | strike (t : Addr) (ps : List (Addr × S3))
  | dress (t : Addr) (ps : List (Addr × S3)) (wd : Str)
  | move (t : Addr) (ps : List (Addr × S3)) (an : Addr × S3)
def AD.kd : AD → Kd
  | .non => .s
  | .put _ _ => .p
  | .strike _ _ => .k
  | .dress _ _ _ => .d
  | .move _ _ _ => .m
/-- its attributes -/
def AD.fs (n t : V) : AD → List (Str × V)
  | .non => fN n t
  | .put an z => putF "signs" (.str z) (putF "anchor" (.ref an.1) (fN n t))
  | .strike tt _ => putF "names" (.ref tt) (fN n t)
  | .dress tt _ wd => putF "word" (.str wd) (putF "names" (.ref tt) (fN n t))
  | .move tt _ an => putF "anchor" (.ref an.1) (putF "names" (.ref tt) (fN n t))
/-- what of the heap belongs to it -/
def AD.Ok (H : Hp) : AD → Prop
  | .non => True
  | .put an z => H an.1 = some (.tup (v3 an.2)) ∧ z.length ≤ 60
  | .strike t ps => NmAt H t ps
  | .dress t ps _ => NmAt H t ps
  | .move t ps an => NmAt H t ps ∧ H an.1 = some (.tup (v3 an.2))
theorem AD.Ok.same {H H' : Hp} {ad : AD} (h : ad.Ok H) (s : Same H H') : ad.Ok H' := by
  cases ad with
  | non => trivial
  | put an z => exact ⟨s _ _ h.1, h.2⟩
  | strike t ps => exact NmAt.same h s
  | dress t ps wd => exact NmAt.same h s
  | move t ps an => exact ⟨NmAt.same h.1 s, s _ _ h.2⟩
/-- its texts may be compared -/
def AD.Fine : AD → Prop
  | .non => True
  | .put an z => StrOk an.2.1 ∧ StrOk z
  | .strike _ ps => ∀ p ∈ ps, StrOk p.2.1
  | .dress _ ps wd => (∀ p ∈ ps, StrOk p.2.1) ∧ StrOk wd
  | .move _ ps an => (∀ p ∈ ps, StrOk p.2.1) ∧ StrOk an.2.1
def fieldNames : List Str := ["name", "time", "anchor", "signs", "names", "word"]
theorem lk_out {f m : Str} {v : V} {fs : List (Str × V)} (h : m ∉ fieldNames) (hf : f ∈ fieldNames) : (putF f v fs).lookup m = fs.lookup m := lk_ne fun e => h (by rw [e]; exact hf)
theorem fN_no {n t : V} {m : Str} (h : m ∉ fieldNames) : (fN n t).lookup m = none := (lk_out h (by simp [fieldNames])).trans (lk_out h (by simp [fieldNames]))
theorem AD.noF {n t : V} (ad : AD) {m : Str} (h : m ∉ fieldNames) : (ad.fs n t).lookup m = none := by
  cases ad with
  | non => exact fN_no h
  | put an z => exact (lk_out h (by simp [fieldNames])).trans ((lk_out h (by simp [fieldNames])).trans (fN_no h))
  | strike tt ps => exact (lk_out h (by simp [fieldNames])).trans (fN_no h)
  | dress tt ps wd => exact (lk_out h (by simp [fieldNames])).trans ((lk_out h (by simp [fieldNames])).trans (fN_no h))
  | move tt ps an => exact (lk_out h (by simp [fieldNames])).trans ((lk_out h (by simp [fieldNames])).trans (fN_no h))
theorem fN_name {n t : V} : (fN n t).lookup ("name" : Str) = some n := by
  unfold fN
  rw [lk_ne (by decide +kernel), lk_eq]
theorem fN_time {n t : V} : (fN n t).lookup ("time" : Str) = some t := by
  unfold fN
  rw [lk_eq]
theorem AD.f_name {n t : V} (ad : AD) : (ad.fs n t).lookup ("name" : Str) = some n := by
  cases ad with
  | non => exact fN_name
  | put an z => exact (lk_ne (by decide +kernel)).trans ((lk_ne (by decide +kernel)).trans fN_name)
  | strike tt ps => exact (lk_ne (by decide +kernel)).trans fN_name
  | dress tt ps wd => exact (lk_ne (by decide +kernel)).trans ((lk_ne (by decide +kernel)).trans fN_name)
  | move tt ps an => exact (lk_ne (by decide +kernel)).trans ((lk_ne (by decide +kernel)).trans fN_name)
theorem AD.f_time {n t : V} (ad : AD) : (ad.fs n t).lookup ("time" : Str) = some t := by
  cases ad with
  | non => exact fN_time
  | put an z => exact (lk_ne (by decide +kernel)).trans ((lk_ne (by decide +kernel)).trans fN_time)
  | strike tt ps => exact (lk_ne (by decide +kernel)).trans fN_time
  | dress tt ps wd => exact (lk_ne (by decide +kernel)).trans ((lk_ne (by decide +kernel)).trans fN_time)
  | move tt ps an => exact (lk_ne (by decide +kernel)).trans ((lk_ne (by decide +kernel)).trans fN_time)

/-! ### a stroke in the heap -/
structure StAt (A : Ad) (H : Hp) (x tn : Addr) (nm : Nm) (tm : Int) (ad : AD) : Prop where
  at_ : ∃ dx, H x = some (.ins (A.cls ad.kd) dx (ad.fs (.ref tn) (.int tm)))
  nmt : H tn = some (.tup [.str nm.1, .int nm.2])
  ok : ad.Ok H
  fine : ad.Fine
  good : StrOk nm.1
theorem StAt.same {A : Ad} {H H' : Hp} {x tn : Addr} {nm : Nm} {tm : Int} {ad : AD} (h : StAt A H x tn nm tm ad) (s : Same H H') : StAt A H' x tn nm tm ad := by
  obtain ⟨dx, e⟩ := h.at_
  exact ⟨⟨dx, s _ _ e⟩, s _ _ h.nmt, h.ok.same s, h.fine, h.good⟩

/-! ### what it tells, as data -/
def AD.many : AD → Nat
  | .put _ z => z.length
  | .move _ ps _ => ps.length
  | _ => 0
def AD.names : AD → List S3
  | .strike _ ps => ps.map (·.2)
  | .dress _ ps _ => ps.map (·.2)
  | .move _ ps _ => ps.map (·.2)
  | _ => []
def AD.anchors : AD → List S3
  | .put an _ => [an.2]
  | .move _ _ an => [an.2]
  | _ => []
def AD.used (ad : AD) : List S3 := ad.names ++ ad.anchors
def slotsD (nm : Nm) (n : Nat) : List PyData := (List.range n).map fun k => d3 (nm.1, nm.2, ((k : Nat) : Int) + 1)
/-- the pens' names in a row of slots -/
def pensOf (l : List S3) : List Nm := (l.filter fun x => !decide (V.str x.1 = V.str "")).map nmOf
def leansD (l : List S3) : List PyData := (canon (pensOf l)).map encN
def toldD (nm : Nm) (ad : AD) : PyData := .tuple [.list (slotsD nm ad.many), .list (ad.names.map d3), .list (leansD ad.used)]
/-- the act as a tuple's items -/
def AD.vs : AD → List V
  | .non => []
  | .put an z => [.str "put", .ref an.1, .str z]
  | .strike t _ => [.str "strike", .ref t]
  | .dress t _ wd => [.str "dress", .ref t, .str wd]
  | .move t _ an => [.str "move", .ref t, .ref an.1]
def AD.dat : AD → PyData
  | .non => .tuple []
  | .put an z => .tuple [.str "put", d3 an.2, .str z]
  | .strike _ ps => .tuple [.str "strike", .tuple ((ps.map (·.2)).map d3)]
  | .dress _ ps wd => .tuple [.str "dress", .tuple ((ps.map (·.2)).map d3), .str wd]
  | .move _ ps an => .tuple [.str "move", .tuple ((ps.map (·.2)).map d3), d3 an.2]
theorem AD.dp {K : PySem.W.Frag} {H : Hp} {p : Addr} (ad : AD) (h : H p = some (.tup ad.vs)) (ok : ad.Ok H) : Dp K H (.ref p) ad.dat := by
  cases ad with
  | non => exact .tup (.of h) .nil
  | put an z => exact .tup (.of h) (.cons (.str _) (.cons (dp3 ok.1) (.cons (.str _) .nil)))
  | strike t ps => exact .tup (.of h) (.cons (.str _) (.cons (NmAt.dp ok) .nil))
  | dress t ps wd => exact .tup (.of h) (.cons (.str _) (.cons (NmAt.dp ok) (.cons (.str _) .nil)))
  | move t ps an => exact .tup (.of h) (.cons (.str _) (.cons (NmAt.dp ok.1) (.cons (dp3 ok.2) .nil)))
def rowD (nm : Nm) (tm : Int) (ad : AD) : PyData := .tuple [encN nm, .int tm, ad.dat]

/-! ### the forms of promises -/
/-- a new list that tells ds -/
def RetL (K : PySem.W.Frag) (H : Hp) (ds : List PyData) (Q : VK) : Prop := ∀ (H' : Hp) (l : Addr) (xs : List V), Same H H' → H l = none → H' l = some (.lst xs) → DpAll K H' xs ds → Q (.ref l) H'
/-- a value that tells d -/
def RetD (K : PySem.W.Frag) (H : Hp) (d : PyData) (Q : VK) : Prop := ∀ (H' : Hp) (v : V), Same H H' → Dp K H' v d → Q v H'
end Rq

/-! The five __init__s. -/
namespace Rq
open PySem PySem.Spec PyProof.Rows L2
def spIS (K : PySem.W.Frag) : Sp := fun vs H Q _ => ∃ (x C dx : Addr) (n t : V), vs = [.ref x, n, t] ∧ ClF K C ∧ H x = some (.ins C dx []) ∧ Q .non (upd H x (.ins C dx (fN n t)))
def spIP (K : PySem.W.Frag) : Sp := fun vs H Q _ => ∃ (x C dx : Addr) (n t an z : V), vs = [.ref x, n, t, an, z] ∧ ClF K C ∧ H x = some (.ins C dx []) ∧ Q .non (upd H x (.ins C dx (putF "signs" z (putF "anchor" an (fN n t)))))
def spIN (K : PySem.W.Frag) : Sp := fun vs H Q _ => ∃ (x C dx : Addr) (n t ns : V), vs = [.ref x, n, t, ns] ∧ ClF K C ∧ H x = some (.ins C dx []) ∧ Q .non (upd H x (.ins C dx (putF "names" ns (fN n t))))
def spID (K : PySem.W.Frag) : Sp := fun vs H Q _ => ∃ (x C dx : Addr) (n t ns wd : V), vs = [.ref x, n, t, ns, wd] ∧ ClF K C ∧ H x = some (.ins C dx []) ∧ Q .non (upd H x (.ins C dx (putF "word" wd (putF "names" ns (fN n t)))))
def spIM (K : PySem.W.Frag) : Sp := fun vs H Q _ => ∃ (x C dx : Addr) (n t ns an : V), vs = [.ref x, n, t, ns, an] ∧ ClF K C ∧ H x = some (.ins C dx []) ∧ Q .non (upd H x (.ins C dx (putF "anchor" an (putF "names" ns (fN n t)))))
theorem scIS : FnScope ["self", "name", "time"] ["self", "name", "time"] (defScope sIS) := ⟨rfl, rfl, rfl, by decide +kernel, rfl, by decide +kernel, by decide +kernel⟩
theorem scIP : FnScope ["self", "name", "time", "anchor", "signs"] ["self", "name", "time", "anchor", "signs"] (defScope sIP) := ⟨rfl, rfl, rfl, by decide +kernel, rfl, by decide +kernel, by decide +kernel⟩
theorem scIN : FnScope ["self", "name", "time", "names"] ["self", "name", "time", "names"] (defScope sIN) := ⟨rfl, rfl, rfl, by decide +kernel, rfl, by decide +kernel, by decide +kernel⟩
theorem scID : FnScope ["self", "name", "time", "names", "word"] ["self", "name", "time", "names", "word"] (defScope sID) := ⟨rfl, rfl, rfl, by decide +kernel, rfl, by decide +kernel, by decide +kernel⟩
theorem scIM : FnScope ["self", "name", "time", "names", "anchor"] ["self", "name", "time", "names", "anchor"] (defScope sIM) := ⟨rfl, rfl, rfl, by decide +kernel, rfl, by decide +kernel, by decide +kernel⟩
section
variable {P : Program} {w : World} {K : PySem.W.Frag} {mg : Str → Option Value} {base : Heap} {A : Ad}
theorem few3 {f : Str} {v n t : V} : (putF f v (fN n t)).length < 1000 := Nat.lt_of_le_of_lt (Nat.le_trans (putF_len _ _ _) (Nat.succ_le_succ (fN_len n t))) (by decide)
theorem few2 {n t : V} : (fN n t).length < 1000 := Nat.lt_of_le_of_lt (fN_len n t) (by decide)
theorem ok_iS (T : Txt K mg A) : Kp P w K mg base 1 A.iS (spIS K) := by
  refine kp_of T.d_iS scIS (fun vs H Q E h => ?_) (fun fd cdv B outer s H vs Q E hr h => ?_)
  · obtain ⟨_, _, _, _, _, rfl, _⟩ := h
    rfl
  · obtain ⟨x, C, dx, n, t, rfl, cf, hx, k⟩ := h
    refine ⟨_, pss_cons (ps_fld (pv 0) (pv 1) rfl) (pss_one (ps_fld (pv 0) (pv 2) rfl)), ?_⟩
    refine ⟨_, rfl, _, rfl, x, C, dx, _, rfl, hx, cf.cl, cf.n_name, (by show 0 < 1000; decide), _, rfl, _, rfl, x, C, dx, _, rfl, upd_same, cf.cl, cf.n_time, (by show 1 < 1000; decide), ?_⟩
    rw [upd_upd]
    exact k
theorem ok_iP (T : Txt K mg A) : Kp P w K mg base 2 A.iP (spIP K) := by
  refine kp_of T.d_iP scIP (fun vs H Q E h => ?_) (fun fd cdv B outer s H vs Q E hr h => ?_)
  · obtain ⟨_, _, _, _, _, _, _, rfl, _⟩ := h
    rfl
  · obtain ⟨x, C, dx, n, t, an, z, rfl, cf, hx, k⟩ := h
    refine ⟨_, pss_cons (ps_expr (pe_of (ok_iS T) T.oS T.g_cS hr (by decide) (pa_cons (pv 0) (pa_cons (pv 1) (pa_cons (pv 2) pa_nil))))) (pss_cons (ps_fld (pv 0) (pv 3) rfl) (pss_one (ps_fld (pv 0) (pv 4) rfl))), ?_⟩
    refine ⟨_, rfl, _, rfl, _, rfl, x, C, dx, n, t, rfl, cf, hx, ?_⟩
    refine ⟨_, rfl, _, rfl, x, C, dx, _, rfl, upd_same, cf.cl, cf.n_anchor, few2, _, rfl, _, rfl, x, C, dx, _, rfl, upd_same, cf.cl, cf.n_signs, few3, ?_⟩
    rw [upd_upd, upd_upd]
    exact k
theorem ok_iN (T : Txt K mg A) : Kp P w K mg base 2 A.iN (spIN K) := by
  refine kp_of T.d_iN scIN (fun vs H Q E h => ?_) (fun fd cdv B outer s H vs Q E hr h => ?_)
  · obtain ⟨_, _, _, _, _, _, rfl, _⟩ := h
    rfl
  · obtain ⟨x, C, dx, n, t, ns, rfl, cf, hx, k⟩ := h
    refine ⟨_, pss_cons (ps_expr (pe_of (ok_iS T) T.oS T.g_cS hr (by decide) (pa_cons (pv 0) (pa_cons (pv 1) (pa_cons (pv 2) pa_nil))))) (pss_one (ps_fld (pv 0) (pv 3) rfl)), ?_⟩
    refine ⟨_, rfl, _, rfl, _, rfl, x, C, dx, n, t, rfl, cf, hx, ?_⟩
    refine ⟨_, rfl, _, rfl, x, C, dx, _, rfl, upd_same, cf.cl, cf.n_names, few2, ?_⟩
    rw [upd_upd]
    exact k
theorem ok_iD (T : Txt K mg A) : Kp P w K mg base 3 A.iD (spID K) := by
  refine kp_of T.d_iD scID (fun vs H Q E h => ?_) (fun fd cdv B outer s H vs Q E hr h => ?_)
  · obtain ⟨_, _, _, _, _, _, _, rfl, _⟩ := h
    rfl
  · obtain ⟨x, C, dx, n, t, ns, wd, rfl, cf, hx, k⟩ := h
    refine ⟨_, pss_cons (ps_expr (pe_of (ok_iN T) T.oN T.g_cN hr (by decide) (pa_cons (pv 0) (pa_cons (pv 1) (pa_cons (pv 2) (pa_cons (pv 3) pa_nil)))))) (pss_one (ps_fld (pv 0) (pv 4) rfl)), ?_⟩
    refine ⟨_, rfl, _, rfl, _, rfl, _, rfl, x, C, dx, n, t, ns, rfl, cf, hx, ?_⟩
    refine ⟨_, rfl, _, rfl, x, C, dx, _, rfl, upd_same, cf.cl, cf.n_word, few3, ?_⟩
    rw [upd_upd]
    exact k
theorem ok_iM (T : Txt K mg A) : Kp P w K mg base 3 A.iM (spIM K) := by
  refine kp_of T.d_iM scIM (fun vs H Q E h => ?_) (fun fd cdv B outer s H vs Q E hr h => ?_)
  · obtain ⟨_, _, _, _, _, _, _, rfl, _⟩ := h
    rfl
  · obtain ⟨x, C, dx, n, t, ns, an, rfl, cf, hx, k⟩ := h
    refine ⟨_, pss_cons (ps_expr (pe_of (ok_iN T) T.oN T.g_cN hr (by decide) (pa_cons (pv 0) (pa_cons (pv 1) (pa_cons (pv 2) (pa_cons (pv 3) pa_nil)))))) (pss_one (ps_fld (pv 0) (pv 4) rfl)), ?_⟩
    refine ⟨_, rfl, _, rfl, _, rfl, _, rfl, x, C, dx, n, t, ns, rfl, cf, hx, ?_⟩
    refine ⟨_, rfl, _, rfl, x, C, dx, _, rfl, upd_same, cf.cl, cf.n_anchor, few3, ?_⟩
    rw [upd_upd]
    exact k
end
end Rq

/-! The methods but leans. -/
namespace Rq
open PySem PySem.Spec PyProof.Rows L2

/-! ### within a comprehension: the written part by its name -/
section
variable {X : Cx} {e : Expr} {f : Str} {pos : Pos} {ta : TE}
theorem ix_tupK (K : PySem.W.Frag) (h : X.K = K := by rfl) : IxR X (rIxT K) := by
  subst h
  exact ix_tup
theorem pe_fldK (K : PySem.W.Frag) (he : PE X e ta) (hb : attributeBase e f X.env (eval e X.env) = eval e X.env) (h : X.K = K := by rfl) : PE X (.Attribute e f pos) (tFld K ta f) := by
  subst h
  exact pe_fld he hb
end
theorem yes_if {σ : L2.St} {H : Hp} {A B : Hp → Prop} (h : A H) : tYes σ H (fun b G => if b = true then A G else B G) := by
  show if true = true then A H else B H
  rw [if_pos rfl]
  exact h
/-! ### a list that a loop fills with new things -/
/-- the heap without what stands at D -/
def hide (D : Addr) (G : Hp) : Hp := fun b => if b = D then none else G b
theorem hide_ne {D b : Addr} {G : Hp} (h : b ≠ D) : hide D G b = G b := if_neg h
theorem hide_same {D : Addr} {G : Hp} : Same (hide D G) G := fun b o e => by
  by_cases h : b = D
  · rw [h] at e
    rw [hide, if_pos rfl] at e
    cases e
  · rwa [hide_ne h] at e
theorem hide_mono {D : Addr} {G G' : Hp} (s : Same G G') : Same (hide D G) (hide D G') := fun b o e => by
  by_cases h : b = D
  · rw [h] at e
    rw [hide, if_pos rfl] at e
    cases e
  · rw [hide_ne h] at e ⊢
    exact s b o e
theorem hide_upd {D : Addr} {G : Hp} {o : HO} : hide D (upd G D o) = hide D G := funext fun b => by
  by_cases h : b = D
  · rw [h, hide, hide, if_pos rfl, if_pos rfl]
  · rw [hide_ne h, hide_ne h, upd_ne h]
/-- since H, a list at D tells ds -/
structure Acc (K : PySem.W.Frag) (H : Hp) (D : Addr) (ds : List PyData) (G : Hp) : Prop where
  no : H D = none
  sm : Same H G
  ex : ∃ xs, G D = some (.lst xs) ∧ DpAll K (hide D G) xs ds
theorem dpAll_len {K : PySem.W.Frag} {H : Hp} : ∀ {xs : List V} {ds : List PyData}, DpAll K H xs ds → xs.length = ds.length
  | _, _, .nil => rfl
  | _, _, .cons _ t => by rw [List.length_cons, List.length_cons, dpAll_len t]
theorem dpAll_snoc {K : PySem.W.Frag} {H : Hp} {y : V} {d : PyData} (h : Dp K H y d) : ∀ {xs : List V} {ds : List PyData}, DpAll K H xs ds → DpAll K H (xs ++ [y]) (ds ++ [d])
  | _, _, .nil => .cons h .nil
  | _, _, .cons a t => .cons a (dpAll_snoc h t)
theorem acc_nil {K : PySem.W.Frag} {H : Hp} {D : Addr} (h : H D = none) : Acc K H D [] (upd H D (.lst [])) := ⟨h, same_new h, [], upd_same, .nil⟩
theorem Acc.grow {K : PySem.W.Frag} {H G G' : Hp} {D : Addr} {ds : List PyData} (a : Acc K H D ds G) (s : Same G G') : Acc K H D ds G' := by
  obtain ⟨xs, e, d⟩ := a.ex
  exact ⟨a.no, a.sm.trans s, xs, s _ _ e, dpAll_same (hide_mono s) ds xs d⟩
/-- one more at the end: what its step wants -/
theorem Acc.more {K : PySem.W.Frag} {H G : Hp} {D : Addr} {ds : List PyData} (a : Acc K H D ds G) {y : V} {d : PyData} (h : Dp K (hide D G) y d) :
    ∃ xs, G D = some (.lst xs) ∧ xs.length = ds.length ∧ Acc K H D (ds ++ [d]) (upd G D (.lst (xs ++ [y]))) := by
  obtain ⟨xs, e, da⟩ := a.ex
  refine ⟨xs, e, dpAll_len da, a.no, same_put a.sm a.no, xs ++ [y], upd_same, ?_⟩
  rw [hide_upd]
  exact dpAll_snoc h da
theorem Acc.all {K : PySem.W.Frag} {H G : Hp} {D : Addr} {ds : List PyData} (a : Acc K H D ds G) : ∃ xs, G D = some (.lst xs) ∧ DpAll K G xs ds := by
  obtain ⟨xs, e, da⟩ := a.ex
  exact ⟨xs, e, dpAll_same hide_same ds xs da⟩
theorem Acc.ret {K : PySem.W.Frag} {H G : Hp} {D : Addr} {ds : List PyData} {Q : VK} (a : Acc K H D ds G) (q : RetL K H ds Q) : Q (.ref D) G := by
  obtain ⟨xs, e, da⟩ := a.all
  exact q G D xs a.sm a.no e da

section
variable {P : Program} {w : World} {K : PySem.W.Frag} {mg : Str → Option Value} {base : Heap} {A : Ad}
/-! ### none -/
def spNil (K : PySem.W.Frag) : Sp := fun vs H Q _ => ∃ v : V, vs = [v] ∧ RetL K H [] Q
theorem scSlS : FnScope ["self"] ["self"] (defScope sSlS) := ⟨rfl, rfl, rfl, by decide +kernel, rfl, by decide +kernel, by decide +kernel⟩
theorem scToS : FnScope ["self"] ["self"] (defScope sToS) := ⟨rfl, rfl, rfl, by decide +kernel, rfl, by decide +kernel, by decide +kernel⟩
theorem scAnS : FnScope ["self"] ["self"] (defScope sAnS) := ⟨rfl, rfl, rfl, by decide +kernel, rfl, by decide +kernel, by decide +kernel⟩
theorem ok_slS (T : Txt K mg A) : Kp P w K mg base 1 A.slS (spNil K) := by
  refine kp_of T.d_slS scSlS (fun vs H Q E h => ?_) (fun fd cdv B outer s H vs Q E hr h => ?_)
  · obtain ⟨_, rfl, _⟩ := h
    rfl
  · obtain ⟨v, rfl, q⟩ := h
    exact ⟨_, pss_one (ps_ret (pe_lst pa_nil)), Nat.zero_le _, fun l hl => q _ l [] (same_new hl) hl upd_same .nil⟩
theorem ok_toS (T : Txt K mg A) : Kp P w K mg base 1 A.toS (spNil K) := by
  refine kp_of T.d_toS scToS (fun vs H Q E h => ?_) (fun fd cdv B outer s H vs Q E hr h => ?_)
  · obtain ⟨_, rfl, _⟩ := h
    rfl
  · obtain ⟨v, rfl, q⟩ := h
    exact ⟨_, pss_one (ps_ret (pe_lst pa_nil)), Nat.zero_le _, fun l hl => q _ l [] (same_new hl) hl upd_same .nil⟩
theorem ok_anS (T : Txt K mg A) : Kp P w K mg base 1 A.anS (spNil K) := by
  refine kp_of T.d_anS scAnS (fun vs H Q E h => ?_) (fun fd cdv B outer s H vs Q E hr h => ?_)
  · obtain ⟨_, rfl, _⟩ := h
    rfl
  · obtain ⟨v, rfl, q⟩ := h
    exact ⟨_, pss_one (ps_ret (pe_lst pa_nil)), Nat.zero_le _, fun l hl => q _ l [] (same_new hl) hl upd_same .nil⟩

/-! ### own_slots -/
def spOwn (A : Ad) (K : PySem.W.Frag) : Sp := fun vs H Q _ => ∃ (x tn : Addr) (nm : Nm) (tm : Int) (ad : AD) (n : Nat), vs = [.ref x, .int (n : Int)] ∧ StAt A H x tn nm tm ad ∧ n ≤ 63 ∧ RetL K H (slotsD nm n) Q
theorem scOwn : FnScope ["self", "many", "k"] ["self", "many"] (defScope sOwn) := ⟨rfl, rfl, rfl, by decide +kernel, rfl, by decide +kernel, by decide +kernel⟩
theorem slotsD_succ (nm : Nm) (n : Nat) : slotsD nm (n + 1) = slotsD nm n ++ [d3 (nm.1, nm.2, ((n : Nat) : Int) + 1)] := by
  unfold slotsD
  rw [List.range_succ, List.map_append]
  rfl
theorem slotsD_len (nm : Nm) (n : Nat) : (slotsD nm n).length = n := by
  unfold slotsD
  rw [List.length_map, List.length_range]
theorem ok_own (T : Txt K mg A) : Kp P w K mg base 1 A.own (spOwn A K) := by
  refine kp_of T.d_own scOwn (fun vs H Q E h => ?_) (fun fd cdv B outer s H vs Q E hr h => ?_)
  · obtain ⟨_, _, _, _, _, _, rfl, _⟩ := h
    rfl
  · obtain ⟨x, tn, nm, tm, ad, n, rfl, st, hn, q⟩ := h
    refine ⟨_, pss_one (ps_ret (pe_lc (own := [("k", 2)]) (g := gName 2) rfl scOwn.nd (pi_range1 rfl T.z_range (pa_cons (pv 1) pa_nil)) (blkOk_by (own := [("k", 2)]) (N := ["self", "many", "k"]) (sc := defScope sOwn) (by decide +kernel)) (fun _ _ _ _ _ => pg_name (i := 2) scOwn.nd rfl (Or.inl rfl)) (fun _ _ _ _ _ => pts_nil)
      (fun _ _ _ _ _ => pe_tup (pa_cons (pe_ix (ix_tupK K) (pe_fldK K (pv 0) rfl) pe_int (fun _ _ => rfl)) (pa_cons (pe_ix (ix_tupK K) (pe_fldK K (pv 0) rfl) pe_int (fun _ _ => rfl)) (pa_cons (pe_op op_add (pv 2) pe_int) pa_nil)))))), ?_⟩
    refine ⟨_, rfl, (n : Int), rfl, by omega, by omega, fun D hD => ?_⟩
    refine lc_range (lo := 0) (n := ((n : Nat) : Int).toNat) (fun i G => Acc K H D (slotsD nm i) G) (acc_nil hD) ?_ ?_
    · intro i G hi a
      have st2 := st.same a.sm
      obtain ⟨dx, hx⟩ := st2.at_
      have hnm := st2.nmt
      have cf := T.cf ad.kd
      refine ⟨rfl, ?_⟩
      refine yes_if ?_
      refine ⟨_, rfl, x, _, dx, _, _, rfl, hx, cf.cl, cf.n_name, ad.f_name, tn, _, 0, .str nm.1, rfl, rfl, .of hnm, rfl, ?_⟩
      refine ⟨_, rfl, x, _, dx, _, _, rfl, hx, cf.cl, cf.n_name, ad.f_name, tn, _, 1, .int nm.2, rfl, rfl, .of hnm, rfl, ?_⟩
      refine ⟨_, rfl, _, _, rfl, rfl, by show 3 ≤ sizeLine; decide, fun p hp => ?_⟩
      have a2 := a.grow (same_new (o := .tup [.str nm.1, .int nm.2, .int (0 + (i : Int) + 1)]) hp)
      have hpD : p ≠ D := fun e => by
        obtain ⟨xs, e2, _⟩ := a.ex
        rw [← e, hp] at e2
        cases e2
      obtain ⟨xs, e1, e2, a3⟩ := a2.more (y := .ref p) (d := d3 (nm.1, nm.2, ((i : Nat) : Int) + 1)) (by
        have z : hide D (upd G p (.tup [.str nm.1, .int nm.2, .int (0 + (i : Int) + 1)])) p = some (.tup (v3 (nm.1, nm.2, ((i : Nat) : Int) + 1))) := by
          rw [hide_ne hpD, upd_same, Int.zero_add]
        exact dp3 z)
      refine ⟨xs, e1, ?_, ?_⟩
      · rw [e2, slotsD_len, sizeLine_eq]
        omega
      · rw [slotsD_succ]
        exact a3
    · intro G a
      have e : ((n : Nat) : Int).toNat = n := by omega
      rw [e] at a
      exact a.ret q
end
end Rq

/-! Methods by the stroke's class; row. -/
namespace Rq
open PySem PySem.Spec PyProof.Rows L2
section
variable {X : Cx} {A : Ad} {m : Str} {f : Kd → Addr} {sp : Kd → Sp} {k j i : Nat} {o : Expr} {pos apos : Pos}
/-- o.m(), o the stroke in the i-th slot, of whatever class -/
theorem pe_disp {pl : Sem Bool} (c : ∀ kd, Kp X.prog X.w X.K X.mg X.base k (f kd) (sp kd)) (cf : ∀ kd, ClF X.K (A.cls kd)) (hm : ∀ kd, Meth X.K (A.cls kd) m (f kd)) (hr : Room j X.A) (hk : k ≤ j) (hf : m ∉ fieldNames) (he : PE X o (tVar i))
    (ht : eval (.Call (.Attribute o m apos) [] [] pos) X.env = (do
      let ov ← eval o X.env
      standAt apos.atName
      let (f, first) ← holding [ov] (getMethod ov m pl)
      callWith pos f first (backTo pos (starEach [] X.env)) (backToKw pos (keywordEach [] X.env))) := by rfl) :
    PE X (.Call (.Attribute o m apos) [] [] pos) (fun σ H Q => ∃ (x tn : Addr) (nm : Nm) (tm : Int) (ad : AD), σ[i]? = some (some (.ref x)) ∧ StAt A H x tn nm tm ad ∧ sp ad.kd [.ref x] H Q E0) :=
  pe_imp (pe_fam fun kd => pe_m0 (pl := pl) (c kd) (cf kd).cl (hm kd) hr hk he ht) fun σ H Q ⟨x, tn, nm, tm, ad, e, st, q⟩ => by
    obtain ⟨dx, hx⟩ := st.at_
    exact ⟨ad.kd, .ref x, e, x, dx, _, rfl, hx, ad.noF hf, q⟩
/-- .. of a class that is not the plain one -/
theorem pe_dispN {pl : Sem Bool} (c : ∀ kd, kd ≠ .s → Kp X.prog X.w X.K X.mg X.base k (f kd) (sp kd)) (cf : ∀ kd, ClF X.K (A.cls kd)) (hm : ∀ kd, kd ≠ .s → Meth X.K (A.cls kd) m (f kd)) (hr : Room j X.A) (hk : k ≤ j) (hf : m ∉ fieldNames) (he : PE X o (tVar i))
    (ht : eval (.Call (.Attribute o m apos) [] [] pos) X.env = (do
      let ov ← eval o X.env
      standAt apos.atName
      let (f, first) ← holding [ov] (getMethod ov m pl)
      callWith pos f first (backTo pos (starEach [] X.env)) (backToKw pos (keywordEach [] X.env))) := by rfl) :
    PE X (.Call (.Attribute o m apos) [] [] pos) (fun σ H Q => ∃ (x tn : Addr) (nm : Nm) (tm : Int) (ad : AD), σ[i]? = some (some (.ref x)) ∧ ad.kd ≠ .s ∧ StAt A H x tn nm tm ad ∧ sp ad.kd [.ref x] H Q E0) :=
  pe_imp (pe_fam (ι := { kd : Kd // kd ≠ .s }) fun kd => pe_m0 (pl := pl) (c kd.1 kd.2) (cf kd.1).cl (hm kd.1 kd.2) hr hk he ht) fun σ H Q ⟨x, tn, nm, tm, ad, e, ns, st, q⟩ => by
    obtain ⟨dx, hx⟩ := st.at_
    exact ⟨⟨ad.kd, ns⟩, .ref x, e, x, dx, _, rfl, hx, ad.noF hf, q⟩
end
section
variable {P : Program} {w : World} {K : PySem.W.Frag} {mg : Str → Option Value} {base : Heap} {A : Ad}
/-- what a method promises of a stroke of the kind kd: a new list -/
def spL (A : Ad) (K : PySem.W.Frag) (d : Nm → AD → List PyData) (kd : Kd) : Sp := fun vs H Q _ => ∃ (x tn : Addr) (nm : Nm) (tm : Int) (ad : AD), vs = [.ref x] ∧ ad.kd = kd ∧ StAt A H x tn nm tm ad ∧ RetL K H (d nm ad) Q
abbrev dSl (nm : Nm) (ad : AD) : List PyData := slotsD nm ad.many
abbrev dTo (_ : Nm) (ad : AD) : List PyData := ad.names.map d3
abbrev dAn (_ : Nm) (ad : AD) : List PyData := ad.anchors.map d3
abbrev dLe (_ : Nm) (ad : AD) : List PyData := leansD ad.used
/-- .. a value -/
def spD (A : Ad) (K : PySem.W.Frag) (kd : Kd) : Sp := fun vs H Q _ => ∃ (x tn : Addr) (nm : Nm) (tm : Int) (ad : AD), vs = [.ref x] ∧ ad.kd = kd ∧ StAt A H x tn nm tm ad ∧ RetD K H ad.dat Q
theorem spL_len {d : Nm → AD → List PyData} {kd : Kd} : ∀ vs H Q E, spL A K d kd vs H Q E → vs.length = (["self"] : List Str).length := fun vs H Q E h => by
  obtain ⟨_, _, _, _, _, rfl, _⟩ := h
  rfl
theorem scSlP : FnScope ["self"] ["self"] (defScope sSlP) := ⟨rfl, rfl, rfl, by decide +kernel, rfl, by decide +kernel, by decide +kernel⟩
theorem scSlM : FnScope ["self"] ["self"] (defScope sSlM) := ⟨rfl, rfl, rfl, by decide +kernel, rfl, by decide +kernel, by decide +kernel⟩
theorem scToN : FnScope ["self"] ["self"] (defScope sToN) := ⟨rfl, rfl, rfl, by decide +kernel, rfl, by decide +kernel, by decide +kernel⟩
theorem scAnP : FnScope ["self"] ["self"] (defScope sAnP) := ⟨rfl, rfl, rfl, by decide +kernel, rfl, by decide +kernel, by decide +kernel⟩
theorem scAnM : FnScope ["self"] ["self"] (defScope sAnM) := ⟨rfl, rfl, rfl, by decide +kernel, rfl, by decide +kernel, by decide +kernel⟩
theorem scAcP : FnScope ["self"] ["self"] (defScope sAcP) := ⟨rfl, rfl, rfl, by decide +kernel, rfl, by decide +kernel, by decide +kernel⟩
theorem scAcK : FnScope ["self"] ["self"] (defScope sAcK) := ⟨rfl, rfl, rfl, by decide +kernel, rfl, by decide +kernel, by decide +kernel⟩
theorem scAcD : FnScope ["self"] ["self"] (defScope sAcD) := ⟨rfl, rfl, rfl, by decide +kernel, rfl, by decide +kernel, by decide +kernel⟩
theorem scAcM : FnScope ["self"] ["self"] (defScope sAcM) := ⟨rfl, rfl, rfl, by decide +kernel, rfl, by decide +kernel, by decide +kernel⟩
theorem scRow : FnScope ["self"] ["self"] (defScope sRow) := ⟨rfl, rfl, rfl, by decide +kernel, rfl, by decide +kernel, by decide +kernel⟩
/-! ### slots -/
theorem ok_slP (T : Txt K mg A) : Kp P w K mg base 2 A.slP (spL A K dSl .p) := by
  refine kp_of T.d_slP scSlP spL_len (fun fd cdv B outer s H vs Q E hr h => ?_)
  obtain ⟨x, tn, nm, tm, ad, rfl, hk, st, q⟩ := h
  cases ad with
  | put an z =>
    obtain ⟨dx, hx⟩ := st.at_
    obtain ⟨h1, h2⟩ := st.ok
    have cf := T.cf .p
    refine ⟨_, pss_one (ps_ret (pe_m (ok_own T) cf.cl (T.m_own_slots .p) hr (by decide) (pv 0) (pa_cons (pe_callB call_len_str (by rfl) T.z_len PySem.boot_len (pa_cons (pe_fld (pv 0) rfl) pa_nil)) pa_nil))), ?_⟩
    refine ⟨_, rfl, x, dx, _, rfl, hx, AD.noF (.put an z) (by decide +kernel), _, rfl, x, _, dx, _, .str z, rfl, hx, cf.cl, cf.n_signs, lk_eq, ?_⟩
    refine ⟨z, rfl, Nat.le_trans h2 (by decide), ?_⟩
    exact ⟨x, tn, nm, tm, .put an z, z.length, rfl, st, Nat.le_trans h2 (by decide), q⟩
  | _ => cases hk
theorem ok_slM (T : Txt K mg A) : Kp P w K mg base 2 A.slM (spL A K dSl .m) := by
  refine kp_of T.d_slM scSlM spL_len (fun fd cdv B outer s H vs Q E hr h => ?_)
  obtain ⟨x, tn, nm, tm, ad, rfl, hk, st, q⟩ := h
  cases ad with
  | move t ps an =>
    obtain ⟨dx, hx⟩ := st.at_
    obtain ⟨h1, h2⟩ := st.ok
    have cf := T.cf .m
    refine ⟨_, pss_one (ps_ret (pe_m (ok_own T) cf.cl (T.m_own_slots .m) hr (by decide) (pv 0) (pa_cons (pe_callB call_len_seq (by rfl) T.z_len PySem.boot_len (pa_cons (pe_fld (pv 0) rfl) pa_nil)) pa_nil))), ?_⟩
    refine ⟨_, rfl, x, dx, _, rfl, hx, AD.noF (.move t ps an) (by decide +kernel), _, rfl, x, _, dx, _, .ref t, rfl, hx, cf.cl, cf.n_names, (lk_ne (by decide +kernel)).trans lk_eq, ?_⟩
    refine ⟨t, _, rfl, .inr (.of h1.at_), ?_⟩
    rw [List.length_map]
    exact ⟨x, tn, nm, tm, .move t ps an, ps.length, rfl, st, Nat.le_trans h1.few (by decide), q⟩
  | _ => cases hk
theorem ok_sl (T : Txt K mg A) : ∀ kd, Kp P w K mg base 2 (A.f_slots kd) (spL A K dSl kd)
  | .p => ok_slP T
  | .m => ok_slM T
  | .s => ((ok_slS T).mono (by decide)).imp fun vs H Q E ⟨x, tn, nm, tm, ad, e, hk, st, q⟩ => ⟨_, e, by cases ad <;> first | exact q | cases hk⟩
  | .k => ((ok_slS T).mono (by decide)).imp fun vs H Q E ⟨x, tn, nm, tm, ad, e, hk, st, q⟩ => ⟨_, e, by cases ad <;> first | exact q | cases hk⟩
  | .d => ((ok_slS T).mono (by decide)).imp fun vs H Q E ⟨x, tn, nm, tm, ad, e, hk, st, q⟩ => ⟨_, e, by cases ad <;> first | exact q | cases hk⟩
/-! ### touched -/
def spToN (K : PySem.W.Frag) : Sp := fun vs H Q _ => ∃ (x C dx : Addr) (fs : List (Str × V)) (t : Addr) (ps : List (Addr × S3)), vs = [.ref x] ∧ ClF K C ∧ H x = some (.ins C dx fs) ∧ fs.lookup ("names" : Str) = some (.ref t) ∧ NmAt H t ps ∧ RetL K H ((ps.map (·.2)).map d3) Q
theorem ok_toN (T : Txt K mg A) : Kp P w K mg base 1 A.toN (spToN K) := by
  refine kp_of T.d_toN scToN (fun vs H Q E h => ?_) (fun fd cdv B outer s H vs Q E hr h => ?_)
  · obtain ⟨_, _, _, _, _, _, rfl, _⟩ := h
    rfl
  · obtain ⟨x, C, dx, fs, t, ps, rfl, cf, hx, hl, hn, q⟩ := h
    refine ⟨_, pss_one (ps_ret (pe_callTy call_list_of (by rfl) T.z_list (by decide +kernel) (pa_cons (pe_fld (pv 0) rfl) pa_nil))), ?_⟩
    refine ⟨_, rfl, x, _, dx, _, .ref t, rfl, hx, cf.cl, cf.n_names, hl, ?_⟩
    refine ⟨t, _, rfl, .inr (.of hn.at_), fun l hl => ?_⟩
    exact q _ l _ (same_new hl) hl upd_same (dpAll_same (same_new hl) _ _ (dp_refs hn.each))
theorem ok_to (T : Txt K mg A) : ∀ kd, Kp P w K mg base 1 (A.f_touched kd) (spL A K dTo kd)
  | .s => (ok_toS T).imp fun vs H Q E ⟨x, tn, nm, tm, ad, e, hk, st, q⟩ => ⟨_, e, by cases ad <;> first | exact q | cases hk⟩
  | .p => (ok_toS T).imp fun vs H Q E ⟨x, tn, nm, tm, ad, e, hk, st, q⟩ => ⟨_, e, by cases ad <;> first | exact q | cases hk⟩
  | .k => (ok_toN T).imp fun vs H Q E ⟨x, tn, nm, tm, ad, e, hk, st, q⟩ => by
    cases ad with
    | strike t ps =>
      obtain ⟨dx, hx⟩ := st.at_
      exact ⟨x, _, dx, _, t, ps, e, T.cf .k, hx, lk_eq, st.ok, q⟩
    | _ => cases hk
  | .d => (ok_toN T).imp fun vs H Q E ⟨x, tn, nm, tm, ad, e, hk, st, q⟩ => by
    cases ad with
    | dress t ps wd =>
      obtain ⟨dx, hx⟩ := st.at_
      exact ⟨x, _, dx, _, t, ps, e, T.cf .d, hx, (lk_ne (by decide +kernel)).trans lk_eq, st.ok, q⟩
    | _ => cases hk
  | .m => (ok_toN T).imp fun vs H Q E ⟨x, tn, nm, tm, ad, e, hk, st, q⟩ => by
    cases ad with
    | move t ps an =>
      obtain ⟨dx, hx⟩ := st.at_
      exact ⟨x, _, dx, _, t, ps, e, T.cf .m, hx, (lk_ne (by decide +kernel)).trans lk_eq, st.ok.1, q⟩
    | _ => cases hk
/-! ### anchors -/
def spAn1 (K : PySem.W.Frag) : Sp := fun vs H Q _ => ∃ (x C dx : Addr) (fs : List (Str × V)) (an : Addr × S3), vs = [.ref x] ∧ ClF K C ∧ H x = some (.ins C dx fs) ∧ fs.lookup ("anchor" : Str) = some (.ref an.1) ∧ H an.1 = some (.tup (v3 an.2)) ∧ RetL K H [d3 an.2] Q
theorem ok_anP (T : Txt K mg A) : Kp P w K mg base 1 A.anP (spAn1 K) := by
  refine kp_of T.d_anP scAnP (fun vs H Q E h => ?_) (fun fd cdv B outer s H vs Q E hr h => ?_)
  · obtain ⟨_, _, _, _, _, rfl, _⟩ := h
    rfl
  · obtain ⟨x, C, dx, fs, an, rfl, cf, hx, hl, ha, q⟩ := h
    refine ⟨_, pss_one (ps_ret (pe_lst (pa_cons (pe_fld (pv 0) rfl) pa_nil))), ?_⟩
    refine ⟨_, rfl, x, _, dx, _, .ref an.1, rfl, hx, cf.cl, cf.n_anchor, hl, by show 1 ≤ sizeLine; decide, fun l hl => ?_⟩
    exact q _ l _ (same_new hl) hl upd_same (.cons (dp3 (same_new hl _ _ ha)) .nil)
theorem ok_anM (T : Txt K mg A) : Kp P w K mg base 1 A.anM (spAn1 K) := by
  refine kp_of T.d_anM scAnM (fun vs H Q E h => ?_) (fun fd cdv B outer s H vs Q E hr h => ?_)
  · obtain ⟨_, _, _, _, _, rfl, _⟩ := h
    rfl
  · obtain ⟨x, C, dx, fs, an, rfl, cf, hx, hl, ha, q⟩ := h
    refine ⟨_, pss_one (ps_ret (pe_lst (pa_cons (pe_fld (pv 0) rfl) pa_nil))), ?_⟩
    refine ⟨_, rfl, x, _, dx, _, .ref an.1, rfl, hx, cf.cl, cf.n_anchor, hl, by show 1 ≤ sizeLine; decide, fun l hl => ?_⟩
    exact q _ l _ (same_new hl) hl upd_same (.cons (dp3 (same_new hl _ _ ha)) .nil)
theorem ok_an (T : Txt K mg A) : ∀ kd, Kp P w K mg base 1 (A.f_anchors kd) (spL A K dAn kd)
  | .s => (ok_anS T).imp fun vs H Q E ⟨x, tn, nm, tm, ad, e, hk, st, q⟩ => ⟨_, e, by cases ad <;> first | exact q | cases hk⟩
  | .k => (ok_anS T).imp fun vs H Q E ⟨x, tn, nm, tm, ad, e, hk, st, q⟩ => ⟨_, e, by cases ad <;> first | exact q | cases hk⟩
  | .d => (ok_anS T).imp fun vs H Q E ⟨x, tn, nm, tm, ad, e, hk, st, q⟩ => ⟨_, e, by cases ad <;> first | exact q | cases hk⟩
  | .p => (ok_anP T).imp fun vs H Q E ⟨x, tn, nm, tm, ad, e, hk, st, q⟩ => by
    cases ad with
    | put an z =>
      obtain ⟨dx, hx⟩ := st.at_
      exact ⟨x, _, dx, _, an, e, T.cf .p, hx, (lk_ne (by decide +kernel)).trans lk_eq, st.ok.1, q⟩
    | _ => cases hk
  | .m => (ok_anM T).imp fun vs H Q E ⟨x, tn, nm, tm, ad, e, hk, st, q⟩ => by
    cases ad with
    | move t ps an =>
      obtain ⟨dx, hx⟩ := st.at_
      exact ⟨x, _, dx, _, an, e, T.cf .m, hx, lk_eq, st.ok.2, q⟩
    | _ => cases hk
/-! ### act -/
theorem spD_len {kd : Kd} : ∀ vs H Q E, spD A K kd vs H Q E → vs.length = (["self"] : List Str).length := fun vs H Q E h => by
  obtain ⟨_, _, _, _, _, rfl, _⟩ := h
  rfl
theorem ok_acP (T : Txt K mg A) : Kp P w K mg base 1 A.acP (spD A K .p) := by
  refine kp_of T.d_acP scAcP spD_len (fun fd cdv B outer s H vs Q E hr h => ?_)
  obtain ⟨x, tn, nm, tm, ad, rfl, hk, st, q⟩ := h
  cases ad with
  | put an z =>
    obtain ⟨dx, hx⟩ := st.at_
    have cf := T.cf .p
    refine ⟨_, pss_one (ps_ret (pe_tup (pa_cons pe_str (pa_cons (pe_fld (pv 0) rfl) (pa_cons (pe_fld (pv 0) rfl) pa_nil))))), ?_⟩
    refine ⟨_, rfl, x, _, dx, _, .ref an.1, rfl, hx, cf.cl, cf.n_anchor, (lk_ne (by decide +kernel)).trans lk_eq, _, rfl, x, _, dx, _, .str z, rfl, hx, cf.cl, cf.n_signs, lk_eq, by show 3 ≤ sizeLine; decide, fun p hp => ?_⟩
    exact q _ _ (same_new hp) (AD.dp (.put an z) upd_same (st.ok.same (same_new hp)))
  | _ => cases hk
theorem ok_acK (T : Txt K mg A) : Kp P w K mg base 1 A.acK (spD A K .k) := by
  refine kp_of T.d_acK scAcK spD_len (fun fd cdv B outer s H vs Q E hr h => ?_)
  obtain ⟨x, tn, nm, tm, ad, rfl, hk, st, q⟩ := h
  cases ad with
  | strike t ps =>
    obtain ⟨dx, hx⟩ := st.at_
    have cf := T.cf .k
    refine ⟨_, pss_one (ps_ret (pe_tup (pa_cons pe_str (pa_cons (pe_fld (pv 0) rfl) pa_nil)))), ?_⟩
    refine ⟨_, rfl, x, _, dx, _, .ref t, rfl, hx, cf.cl, cf.n_names, lk_eq, by show 2 ≤ sizeLine; decide, fun p hp => ?_⟩
    exact q _ _ (same_new hp) (AD.dp (.strike t ps) upd_same (st.ok.same (same_new hp)))
  | _ => cases hk
theorem ok_acD (T : Txt K mg A) : Kp P w K mg base 1 A.acD (spD A K .d) := by
  refine kp_of T.d_acD scAcD spD_len (fun fd cdv B outer s H vs Q E hr h => ?_)
  obtain ⟨x, tn, nm, tm, ad, rfl, hk, st, q⟩ := h
  cases ad with
  | dress t ps wd =>
    obtain ⟨dx, hx⟩ := st.at_
    have cf := T.cf .d
    refine ⟨_, pss_one (ps_ret (pe_tup (pa_cons pe_str (pa_cons (pe_fld (pv 0) rfl) (pa_cons (pe_fld (pv 0) rfl) pa_nil))))), ?_⟩
    refine ⟨_, rfl, x, _, dx, _, .ref t, rfl, hx, cf.cl, cf.n_names, (lk_ne (by decide +kernel)).trans lk_eq, _, rfl, x, _, dx, _, .str wd, rfl, hx, cf.cl, cf.n_word, lk_eq, by show 3 ≤ sizeLine; decide, fun p hp => ?_⟩
    exact q _ _ (same_new hp) (AD.dp (.dress t ps wd) upd_same (st.ok.same (same_new hp)))
  | _ => cases hk
theorem ok_acM (T : Txt K mg A) : Kp P w K mg base 1 A.acM (spD A K .m) := by
  refine kp_of T.d_acM scAcM spD_len (fun fd cdv B outer s H vs Q E hr h => ?_)
  obtain ⟨x, tn, nm, tm, ad, rfl, hk, st, q⟩ := h
  cases ad with
  | move t ps an =>
    obtain ⟨dx, hx⟩ := st.at_
    have cf := T.cf .m
    refine ⟨_, pss_one (ps_ret (pe_tup (pa_cons pe_str (pa_cons (pe_fld (pv 0) rfl) (pa_cons (pe_fld (pv 0) rfl) pa_nil))))), ?_⟩
    refine ⟨_, rfl, x, _, dx, _, .ref t, rfl, hx, cf.cl, cf.n_names, (lk_ne (by decide +kernel)).trans lk_eq, _, rfl, x, _, dx, _, .ref an.1, rfl, hx, cf.cl, cf.n_anchor, lk_eq, by show 3 ≤ sizeLine; decide, fun p hp => ?_⟩
    exact q _ _ (same_new hp) (AD.dp (.move t ps an) upd_same (st.ok.same (same_new hp)))
  | _ => cases hk
theorem ok_ac (T : Txt K mg A) : ∀ kd, kd ≠ .s → Kp P w K mg base 1 (A.f_act kd) (spD A K kd)
  | .s, h => absurd rfl h
  | .p, _ => ok_acP T
  | .k, _ => ok_acK T
  | .d, _ => ok_acD T
  | .m, _ => ok_acM T
/-! ### row -/
def spRow (A : Ad) (K : PySem.W.Frag) : Sp := fun vs H Q _ => ∃ (x tn : Addr) (nm : Nm) (tm : Int) (ad : AD), vs = [.ref x] ∧ ad.kd ≠ .s ∧ StAt A H x tn nm tm ad ∧ RetD K H (rowD nm tm ad) Q
theorem ok_row (T : Txt K mg A) : Kp P w K mg base 2 A.row (spRow A K) := by
  refine kp_of T.d_row scRow (fun vs H Q E h => ?_) (fun fd cdv B outer s H vs Q E hr h => ?_)
  · obtain ⟨_, _, _, _, _, rfl, _⟩ := h
    rfl
  · obtain ⟨x, tn, nm, tm, ad, rfl, ns, st, q⟩ := h
    obtain ⟨dx, hx⟩ := st.at_
    have cf := T.cf ad.kd
    refine ⟨_, pss_one (ps_ret (pe_tup (pa_cons (pe_fld (pv 0) rfl) (pa_cons (pe_fld (pv 0) rfl) (pa_cons (pe_dispN (A := A) (f := A.f_act) (sp := spD A K) (ok_ac T) T.cf T.m_act hr (by decide) (by decide +kernel) (pv 0)) pa_nil))))), ?_⟩
    refine ⟨_, rfl, x, _, dx, _, .ref tn, rfl, hx, cf.cl, cf.n_name, ad.f_name, _, rfl, x, _, dx, _, .int tm, rfl, hx, cf.cl, cf.n_time, ad.f_time, ?_⟩
    refine ⟨x, tn, nm, tm, ad, rfl, ns, st, x, tn, nm, tm, ad, rfl, rfl, st, fun H1 v s1 d1 => ?_⟩
    refine ⟨by show 3 ≤ sizeLine; decide, fun p hp => ?_⟩
    have s2 := same_new (o := .tup [.ref tn, .int tm, v]) hp
    exact q _ _ (s1.trans s2) (.tup (.of upd_same) (.cons (dpN (s2 _ _ (s1 _ _ st.nmt))) (.cons (.int _) (.cons (dp_same s2 _ _ d1) .nil))))
end
end Rq

/-! leans: sorted(set([(one[0], one[1]) for one in used if one[0] != ""])). -/
namespace Rq
open PySem PySem.Spec PyProof.Rows L2
/-- a list of tuples of three, undone -/
theorem undo3 {K : PySem.W.Frag} {H : Hp} : ∀ {l : List S3} {xs : List V}, DpAll K H xs (l.map d3) → ∃ us : List (Addr × S3), xs = us.map (fun u => V.ref u.1) ∧ us.map (·.2) = l ∧ ∀ u ∈ us, SqT K H u.1 (v3 u.2)
  | [], _, .nil => ⟨[], rfl, rfl, fun u h => nomatch h⟩
  | x :: l, _, .cons h t => by
    obtain ⟨us, e1, e2, e3⟩ := undo3 t
    cases h with
    | tup hs ha =>
      cases ha with
      | cons a1 t1 =>
        cases t1 with
        | cons a2 t2 =>
          cases t2 with
          | cons a3 t3 =>
            cases t3
            cases a1
            cases a2
            cases a3
            rename_i a
            refine ⟨(a, x) :: us, by rw [List.map_cons, e1], by rw [List.map_cons, e2], fun u hu => ?_⟩
            rcases List.mem_cons.mp hu with z | z
            · rw [z]
              exact hs
            · exact e3 u z
theorem pens_snoc (l : List S3) (x : S3) : pensOf (l ++ [x]) = if decide (V.str x.1 = V.str "") = true then pensOf l else pensOf l ++ [nmOf x] := by
  unfold pensOf
  rw [List.filter_append, List.map_append]
  by_cases h : V.str x.1 = V.str ""
  · rw [if_pos (decide_eq_true h)]
    have e : [x].filter (fun x => !decide (V.str x.1 = V.str "")) = [] := by simp [List.filter, h]
    rw [e]
    simp
  · rw [if_neg (by rw [decide_eq_false h]; exact Bool.false_ne_true)]
    have e : [x].filter (fun x => !decide (V.str x.1 = V.str "")) = [x] := by simp [List.filter, h]
    rw [e]
    rfl
/-- the pairs so far: at D, since H -/
structure Pairs (K : PySem.W.Frag) (H : Hp) (D : Addr) (l : List Nm) (G : Hp) : Prop where
  no : H D = none
  sm : Same H G
  ex : ∃ ps : List (Addr × Nm), G D = some (.lst (ps.map fun p => V.ref p.1)) ∧ (∀ p ∈ ps, G p.1 = some (.tup [.str p.2.1, .int p.2.2])) ∧ ps.map (·.2) = l
theorem pairs_nil {K : PySem.W.Frag} {H : Hp} {D : Addr} (h : H D = none) : Pairs K H D [] (upd H D (.lst [])) := ⟨h, same_new h, [], upd_same, fun p h => (nomatch h), rfl⟩
theorem Pairs.more {K : PySem.W.Frag} {H G : Hp} {D : Addr} {l : List Nm} (a : Pairs K H D l G) {p : Addr} {x : Nm} (hp : G p = none) :
    ∃ acc, (upd G p (.tup [.str x.1, .int x.2])) D = some (.lst acc) ∧ acc.length = l.length ∧ Pairs K H D (l ++ [x]) (upd (upd G p (.tup [.str x.1, .int x.2])) D (.lst (acc ++ [V.ref p]))) := by
  obtain ⟨ps, e1, e2, e3⟩ := a.ex
  have pD : p ≠ D := fun e => by
    rw [← e, hp] at e1
    cases e1
  have s1 : Same G (upd G p (.tup [.str x.1, .int x.2])) := same_new hp
  refine ⟨_, s1 _ _ e1, by rw [List.length_map, ← e3, List.length_map], a.no, same_put (a.sm.trans s1) a.no, ps ++ [(p, x)], ?_, fun m hm => ?_, by rw [List.map_append, e3]; rfl⟩
  · rw [upd_same, List.map_append]
    rfl
  · have nD : m.1 ≠ D := fun e => by
      rcases List.mem_append.mp hm with z | z
      · have y := e2 m z
        rw [e, e1] at y
        cases y
      · rw [List.mem_singleton.mp z] at e
        exact pD e
    rw [upd_ne nD]
    rcases List.mem_append.mp hm with z | z
    · exact s1 _ _ (e2 m z)
    · rw [List.mem_singleton.mp z]
      exact upd_same
theorem pensOf_len (l : List S3) : (pensOf l).length ≤ l.length := by
  unfold pensOf
  rw [List.length_map]
  exact List.length_filter_le _ _
/-- what sorted(set(..)) of such a list tells -/
theorem canon_tells {K : PySem.W.Frag} {us : List S3} {G : Hp} {ps : List (Addr × Nm)} (e : ps.map (·.2) = pensOf us)
    {a l : Addr} {o : HO} {L M : List (Addr × Nm)} (hps : ∀ p ∈ ps, G p.1 = some (.tup [.str p.2.1, .int p.2.2])) (ha : G a = none) (hl : (upd G a o) l = none) (sub : ∀ m ∈ L, m ∈ ps) (same : ∀ x, x ∈ L.map (·.2) ↔ x ∈ ps.map (·.2)) (nd : (L.map (·.2)).Nodup) (pm : M.Perm L)
    (srt : ∃ L1 : List (Addr × Nm), L1.Perm L ∧ M.map (·.2) = (L1.map (·.2)).mergeSort leN) :
    Same G (upd (upd G a o) l (.lst (M.map fun m => V.ref m.1))) ∧ DpAll K (upd (upd G a o) l (.lst (M.map fun m => V.ref m.1))) (M.map fun m => V.ref m.1) (leansD us) := by
  obtain ⟨L1, p1, e1⟩ := srt
  have s1 : Same G (upd G a o) := same_new ha
  have s2 : Same (upd G a o) (upd (upd G a o) l (.lst (M.map fun m => V.ref m.1))) := same_new hl
  have e2 : M.map (·.2) = canon (pensOf us) := by
    rw [e1]
    refine canon_of (((p1.map (·.2)).nodup_iff).mpr nd) fun x => ?_
    rw [(p1.map (·.2)).mem_iff, same x, e]
  refine ⟨s1.trans s2, ?_⟩
  unfold leansD
  rw [← e2, List.map_map]
  exact dpAll_map fun m hm => dpN (s2 _ _ (s1 _ _ (hps m (sub m (pm.mem_iff.mp hm)))))

section
variable {P : Program} {w : World} {K : PySem.W.Frag} {mg : Str → Option Value} {base : Heap} {A : Ad}
theorem scLea : FnScope ["self", "used", "one"] ["self"] (defScope sLea) := ⟨rfl, rfl, rfl, by decide +kernel, rfl, by decide +kernel, by decide +kernel⟩
def spLea (A : Ad) (K : PySem.W.Frag) : Sp := fun vs H Q _ => ∃ (x tn : Addr) (nm : Nm) (tm : Int) (ad : AD), vs = [.ref x] ∧ StAt A H x tn nm tm ad ∧ RetL K H (leansD ad.used) Q
theorem names_len {A : Ad} {H : Hp} {x tn : Addr} {nm : Nm} {tm : Int} {ad : AD} (st : StAt A H x tn nm tm ad) : ad.names.length ≤ 9 ∧ ad.anchors.length ≤ 1 := by
  have ok := st.ok
  cases ad with
  | non => exact ⟨Nat.zero_le _, Nat.zero_le _⟩
  | put an z => exact ⟨Nat.zero_le _, Nat.le_refl _⟩
  | strike t ps => exact ⟨by show (ps.map (·.2)).length ≤ 9; rw [List.length_map]; exact NmAt.few ok, Nat.zero_le _⟩
  | dress t ps wd => exact ⟨by show (ps.map (·.2)).length ≤ 9; rw [List.length_map]; exact NmAt.few ok, Nat.zero_le _⟩
  | move t ps an => exact ⟨by show (ps.map (·.2)).length ≤ 9; rw [List.length_map]; exact NmAt.few ok.1, Nat.le_refl _⟩
theorem ok_lea (T : Txt K mg A) : Kp P w K mg base 2 A.lea (spLea A K) := by
  refine kp_of T.d_lea scLea (fun vs H Q E h => ?_) (fun fd cdv B outer s H vs Q E hr h => ?_)
  · obtain ⟨_, _, _, _, _, rfl, _⟩ := h
    rfl
  · obtain ⟨x, tn, nm, tm, ad, rfl, st, q⟩ := h
    refine ⟨_, pss_cons (ps_set (i := 1) scLea.nd rfl (Or.inl rfl) (pe_op op_cat
        (pe_disp (A := A) (f := A.f_touched) (sp := spL A K dTo) (ok_to T) T.cf T.m_touched hr (by decide) (by decide +kernel) (pv 0))
        (pe_disp (A := A) (f := A.f_anchors) (sp := spL A K dAn) (ok_an T) T.cf T.m_anchors hr (by decide) (by decide +kernel) (pv 0))))
      (pss_one (ps_ret (pe_callB (cr_sortN rfl hr.units) (by rfl) T.z_sorted (by decide +kernel) (pa_cons (pe_callTy (cr_setN rfl hr.units) (by rfl) T.z_set (by decide +kernel) (pa_cons
        (pe_lc (own := [("one", 2)]) (g := gName 2) rfl scLea.nd (pi_list (pv 1)) (blkOk_by (own := [("one", 2)]) (N := ["self", "used", "one"]) (sc := defScope sLea) (by decide +kernel)) (fun _ _ _ _ _ => pg_name (i := 2) scLea.nd rfl (Or.inl rfl))
          (fun _ _ _ _ _ => pts_one (pt_cmpR op_ne (pe_ix (ix_tupK K) (pv 2) pe_int (fun _ _ => rfl)) pe_str (nomark _)))
          (fun _ _ _ _ _ => pe_tup (pa_cons (pe_ix (ix_tupK K) (pv 2) pe_int (fun _ _ => rfl)) (pa_cons (pe_ix (ix_tupK K) (pv 2) pe_int (fun _ _ => rfl)) pa_nil)))) pa_nil)) pa_nil)))), ?_⟩
    refine ⟨x, tn, nm, tm, ad, rfl, st, x, tn, nm, tm, ad, rfl, rfl, st, fun H1 l1 xs1 s1 n1 e1 d1 => ?_⟩
    have st1 := st.same s1
    refine ⟨x, tn, nm, tm, ad, rfl, st1, x, tn, nm, tm, ad, rfl, rfl, st1, fun H2 l2 xs2 s2 n2 e2 d2 => ?_⟩
    obtain ⟨b1, b2⟩ := names_len st
    have len1 := dpAll_len d1
    have len2 := dpAll_len d2
    rw [List.length_map] at len1 len2
    refine ⟨l1, l2, xs1, xs2, rfl, rfl, s2 _ _ e1, e2, by rw [len1, len2, sizeLine_eq]; omega, fun l3 n3 => ?_⟩
    have s3 : Same H2 (upd H2 l3 (.lst (xs1 ++ xs2))) := same_new n3
    obtain ⟨us1, f1, g1, h1⟩ := undo3 d1
    obtain ⟨us2, f2, g2, h2⟩ := undo3 d2
    have fu : xs1 ++ xs2 = (us1 ++ us2).map fun u => V.ref u.1 := by rw [List.map_append, f1, f2]
    have gu : (us1 ++ us2).map (·.2) = ad.used := by rw [List.map_append, g1, g2]; rfl
    have hu : ∀ u ∈ us1 ++ us2, SqT K H2 u.1 (v3 u.2) := fun u hm => by
      rcases List.mem_append.mp hm with z | z
      · exact Same.tup s2 (h1 u z)
      · exact h2 u z
    rw [fu] at s3 ⊢
    have few : (us1 ++ us2).length < 64 := by
      have e := congrArg List.length gu
      rw [List.length_map] at e
      rw [e]
      show (ad.names ++ ad.anchors).length < 64
      rw [List.length_append]
      omega
    generalize us1 ++ us2 = us at s3 gu hu few ⊢
    have sH : Same H (upd H2 l3 (.lst (us.map fun u => V.ref u.1))) := (s1.trans s2).trans s3
    have seqAt : SqL K (upd H2 l3 (.lst (us.map fun u => V.ref u.1))) l3 (us.map fun u => V.ref u.1) := .of upd_same
    have tupAt : ∀ u ∈ us, SqT K (upd H2 l3 (.lst (us.map fun u => V.ref u.1))) u.1 (v3 u.2) := fun u hm => Same.tup s3 (hu u hm)
    generalize upd H2 l3 (.lst (us.map fun u => V.ref u.1)) = G at sH seqAt tupAt ⊢
    -- the pairs of used
    refine ⟨_, rfl, l3, rfl, ⟨_, seqAt⟩, fun D hD => ?_⟩
    refine lc_list (K := K) (a := l3) (xs := us.map fun u => V.ref u.1) (fun i G' => Pairs K G D (pensOf ((us.take i).map (·.2))) G') (pairs_nil hD) (fun i G' _ a => Same.seq a.sm seqAt) ?_ ?_
    · intro i y G' hy a
      rw [List.getElem?_map] at hy
      obtain ⟨u, hi, rfl⟩ := Option.map_eq_some_iff.mp hy
      have hm : u ∈ us := List.mem_of_getElem? hi
      have hT := Same.tup a.sm (tupAt u hm)
      have il : i < us.length := (List.getElem?_eq_some_iff.mp hi).1
      have step : (us.take (i + 1)).map (·.2) = (us.take i).map (·.2) ++ [u.2] := by
        rw [List.take_add_one, hi, List.map_append]
        rfl
      refine ⟨rfl, ?_⟩
      refine ⟨_, rfl, u.1, _, 0, .str u.2.1, rfl, rfl, hT, rfl, rfl, _, rfl, ?_⟩
      rw [step, pens_snoc]
      by_cases c : V.str u.2.1 = V.str ""
      · rw [decide_eq_true c, if_pos rfl]
        show if (!true) = true then _ else _
        rw [if_neg (by decide)]
        exact a
      · rw [decide_eq_false c, if_neg Bool.false_ne_true]
        show if (!false) = true then _ else _
        rw [if_pos (by decide)]
        refine ⟨_, rfl, u.1, _, 0, .str u.2.1, rfl, rfl, hT, rfl, _, rfl, u.1, _, 1, .int u.2.2.1, rfl, rfl, hT, rfl, by show 2 ≤ sizeLine; decide, fun p hp => ?_⟩
        obtain ⟨acc, k1, k2, k3⟩ := a.more (p := p) (x := nmOf u.2) hp
        refine ⟨acc, k1, ?_, k3⟩
        have z := pensOf_len ((us.take i).map (·.2))
        rw [List.length_map, List.length_take] at z
        rw [k2, sizeLine_eq]
        omega
    · intro G' a
      rw [List.length_map, List.take_length, gu] at a
      obtain ⟨ps, k1, k2, k3⟩ := a.ex
      have z := pensOf_len ad.used
      have zl := congrArg List.length k3
      have zu := congrArg List.length gu
      rw [List.length_map] at zl zu
      refine ⟨D, ps, rfl, .of k1, fun p hp => .of (k2 p hp), by omega, fun a1 L h1 h2 h3 h4 => ?_⟩
      refine ⟨a1, L, rfl, upd_same, fun m hm => .of (same_new h1 _ _ (k2 m (h2 m hm))), fun M p pm _ srt hp => ?_⟩
      obtain ⟨g, d⟩ := canon_tells (K := K) k3 k2 h1 hp h2 h3 h4 pm srt
      exact q _ p _ ((sH.trans a.sm).trans g) (Same.free (sH.trans a.sm) (Same.free (same_new h1) hp)) upd_same d
end
end Rq

/-! The law's own defs: cells, the stream, pens, slots. -/
namespace Rq
open PySem PySem.Spec PyProof.Rows L2
/-! ### data that may be compared -/
structure Lay (n : Nat) (d : PyData) : Prop where
  c : d.canLay0 = true
  d : d.depth ≤ n
structure LayAll (n : Nat) (ds : List PyData) : Prop where
  c : PyData.canLayAll0 ds = true
  d : PyData.depthAll ds ≤ n
theorem lay_str (n : Nat) {x : Str} (h : StrOk x) : Lay n (.str x) := ⟨by simpa [PyData.canLay0] using h, by simp [PyData.depth]⟩
theorem lay_int (n : Nat) (x : Int) : Lay n (.int x) := ⟨by simp [PyData.canLay0], by simp [PyData.depth]⟩
theorem lay_bool (n : Nat) (x : Bool) : Lay n (.bool x) := ⟨by simp [PyData.canLay0], by simp [PyData.depth]⟩
theorem layAll_nil (n : Nat) : LayAll n [] := ⟨by simp [PyData.canLayAll0], by simp [PyData.depthAll]⟩
theorem layAll_cons {n : Nat} {d : PyData} {ds : List PyData} (h : Lay n d) (t : LayAll n ds) : LayAll n (d :: ds) :=
  ⟨by simp [PyData.canLayAll0, h.c, t.c], by rw [PyData.depthAll]; exact Nat.max_le.mpr ⟨h.d, t.d⟩⟩
theorem lay_list {n : Nat} {ds : List PyData} (h : LayAll n ds) : Lay (n + 1) (.list ds) := ⟨by simp [PyData.canLay0, h.c], by rw [PyData.depth]; exact Nat.succ_le_succ h.d⟩
theorem lay_tup {n : Nat} {ds : List PyData} (h : LayAll n ds) : Lay (n + 1) (.tuple ds) := ⟨by simp [PyData.canLay0, h.c], by rw [PyData.depth]; exact Nat.succ_le_succ h.d⟩
theorem layAll_map {α : Type} {n : Nat} {g : α → PyData} : ∀ {l : List α}, (∀ x ∈ l, Lay n (g x)) → LayAll n (l.map g)
  | [], _ => layAll_nil n
  | x :: l, h => layAll_cons (h x List.mem_cons_self) (layAll_map fun y hy => h y (List.mem_cons_of_mem _ hy))
theorem Lay.shaped {n : Nat} {d : PyData} (h : Lay n d) (hn : n ≤ 64) : SeqAt.shaped d = true := by
  show (d.canLay0 && decide (d.depth ≤ 64)) = true
  rw [h.c, decide_eq_true (Nat.le_trans h.d hn)]
  rfl
theorem Lay.mono {m n : Nat} {d : PyData} (h : Lay m d) (hn : m ≤ n) : Lay n d := ⟨h.c, Nat.le_trans h.d hn⟩
theorem lay_d3 (n : Nat) {x : S3} (h : StrOk x.1) : Lay (n + 1) (d3 x) := lay_tup (layAll_cons (lay_str n h) (layAll_cons (lay_int n _) (layAll_cons (lay_int n _) (layAll_nil n))))
theorem lay_encN (n : Nat) {x : Nm} (h : StrOk x.1) : Lay (n + 1) (encN x) := lay_tup (layAll_cons (lay_str n h) (layAll_cons (lay_int n _) (layAll_nil n)))

section
variable {P : Program} {w : World} {K : PySem.W.Frag} {mg : Str → Option Value} {base : Heap} {A : Ad}
/-! ### _law_cell_at(script, 0) -/
def spCell (K : PySem.W.Frag) : Sp := fun vs H Q _ => ∃ (a : Addr) (ns : List Int), vs = [.ref a, .int 0] ∧ SqL K H a (ns.map V.int) ∧ ∀ n, Q (.int n) H
theorem scCell : FnScope ["_law_script", "_law_k"] ["_law_script", "_law_k"] (defScope sLCell) := ⟨rfl, rfl, rfl, by decide +kernel, rfl, by decide +kernel, by decide +kernel⟩
theorem ok_cell (T : Txt K mg A) : Kp P w K mg base 1 A.lCell (spCell K) := by
  refine kp_of T.d_lCell scCell (fun vs H Q E h => ?_) (fun fd cdv B outer s H vs Q E hr h => ?_)
  · obtain ⟨_, _, rfl, _⟩ := h
    rfl
  · obtain ⟨a, ns, rfl, hS, q⟩ := h
    refine ⟨_, pss_cons (ps_if (pt_cmpR op_lt (pv 1) (pe_callB call_len_seq (by rfl) T.z_len PySem.boot_len (pa_cons (pv 0) pa_nil)) (nomark _))
        (pss_one (ps_ret (pe_ix ix_list (pv 0) (pv 1) (fun _ _ => rfl)))) pss_nil) (pss_one (ps_ret pe_int)), ?_⟩
    refine ⟨_, rfl, .ref a, rfl, a, _, rfl, .inl hS, _, _, rfl, rfl, _, rfl, ite2 (fun e => ?_) (fun _ => q 0)⟩
    have h0 : (0 : Int) < ((ns.map V.int).length : Int) := of_decide_eq_true e
    rw [List.length_map] at h0
    obtain ⟨n, hn⟩ : ∃ n, ns[0]? = some n := ⟨_, List.getElem?_eq_getElem (by omega)⟩
    refine ⟨.ref a, rfl, .int 0, rfl, a, _, 0, .int n, rfl, rfl, hS, atI_nat (j := 0) ?_, q n⟩
    rw [List.getElem?_map, hn]
    rfl
/-! ### _law_stream(cell, 16) -/
def spStr : Sp := fun vs H Q _ => ∃ c : Int, vs = [.int c, .int 16] ∧ ∀ (G : Hp) (l : Addr) (ns : List Int), Same H G → H l = none → G l = some (.lst (ns.map V.int)) → ns.length = 16 → Q (.ref l) G
theorem scStr : FnScope ["_law_cell", "_law_many", "_law_found", "_law_number", "_law_k"] ["_law_cell", "_law_many"] (defScope sLStr) := ⟨rfl, rfl, rfl, by decide +kernel, rfl, by decide +kernel, by decide +kernel⟩
theorem ok_str (T : Txt K mg A) : Kp P w K mg base 1 A.lStr spStr := by
  refine kp_of T.d_lStr scStr (fun vs H Q E h => ?_) (fun fd cdv B outer s H vs Q E hr h => ?_)
  · obtain ⟨_, rfl, _⟩ := h
    rfl
  · obtain ⟨c, rfl, q⟩ := h
    refine ⟨_, pss_cons (ps_set (i := 2) scStr.nd rfl (Or.inl rfl) (pe_lst pa_nil)) (pss_cons (ps_set (i := 3) scStr.nd rfl (Or.inl rfl) (pe_op op_mod (pe_op op_mul (pe_op op_add (pv 0) pe_int) pe_int) pe_int))
      (pss_cons (ps_for PassesOwn.never rfl (pi_range1 rfl T.z_range (pa_cons (pv 1) pa_nil)) (pg_name (i := 4) scStr.nd rfl (Or.inl rfl))
        (pss_cons (ps_set (i := 3) scStr.nd rfl (Or.inl rfl) (pe_op op_mod (pe_op op_mul (pe_op op_add (pe_op op_add (pv 3) (pe_op op_mul pe_int (pv 4))) pe_int) (pe_op op_add (pe_op op_fdiv (pv 3) pe_int) pe_int)) pe_int))
          (pss_one (ps_expr (pe_bm PySem.F.plainAttrs_list PySem.F.slot_list_append PySem.F.type_list_append mt_append (pv 2) (pa_cons (pv 3) pa_nil))))))
      (pss_one (ps_ret (pv 2))))), ?_⟩
    refine ⟨Nat.zero_le _, fun D hD => ?_⟩
    refine ⟨_, rfl, _, _, rfl, rfl, _, _, rfl, rfl, .inr ⟨by decide, by decide⟩, _, _, rfl, rfl, (by show (0 : Int) < 2147483647; decide), ?_⟩
    have b0 := Int.emod_nonneg ((c + 1) * 48271) (show (2147483647 : Int) ≠ 0 by decide)
    have b1 := Int.emod_lt_of_pos ((c + 1) * 48271) (show (0 : Int) < 2147483647 by decide)
    refine ⟨_, rfl, 16, rfl, by decide, by decide, ?_⟩
    refine for_range (lo := 0) (n := (16 : Int).toNat) (fun i σ G => ∃ (z : Int) (ns : List Int) (y : Option V), σ = [some (.int c), some (.int 16), some (.ref D), some (.int z), y] ∧ 0 ≤ z ∧ z < 2147483647 ∧ Same H G ∧ G D = some (.lst (ns.map V.int)) ∧ ns.length = i)
      ⟨(c + 1) * 48271 % 2147483647, [], none, rfl, b0, b1, same_new hD, upd_same, rfl⟩ ?_ ?_
    · rintro i σ G hi ⟨z, ns, y, rfl, c0, c1, sm, e, hl⟩
      have i16 : i < 16 := hi
      refine ⟨_, rfl, _, rfl, _, _, rfl, rfl, .inl ⟨by decide, by decide⟩, _, _, rfl, rfl, _, _, rfl, rfl, _, rfl, _, _, rfl, rfl, ⟨by decide, by decide⟩, _, _, rfl, rfl, _, _, rfl, rfl, .inl ⟨by omega, by omega⟩, _, _, rfl, rfl, (by show (0 : Int) < 2147483647; decide), ?_⟩
      have d0 := Int.emod_nonneg ((z + 7919 * (0 + (i : Int)) + 1) * (z / 1009 + 69621)) (show (2147483647 : Int) ≠ 0 by decide)
      have d1 := Int.emod_lt_of_pos ((z + 7919 * (0 + (i : Int)) + 1) * (z / 1009 + 69621)) (show (0 : Int) < 2147483647 by decide)
      refine ⟨_, rfl, .inl ⟨rfl, _, .of e⟩, _, rfl, D, _, _, rfl, rfl, e, ?_, ?_⟩
      · rw [List.length_map, hl, sizeLine_eq]
        omega
      · refine ⟨_, ns ++ [(z + 7919 * (0 + (i : Int)) + 1) * (z / 1009 + 69621) % 2147483647], _, rfl, d0, d1, same_put sm hD, ?_, ?_⟩
        · rw [upd_same, List.map_append]
          rfl
        · rw [List.length_append, hl]
          rfl
    · rintro σ G ⟨z, ns, y, rfl, c0, c1, sm, e, hl⟩
      exact ⟨_, rfl, q G D ns sm hD e hl⟩
end
end Rq

/-! The law's own defs: pens, slots, names. -/
namespace Rq
open PySem PySem.Spec PyProof.Rows L2
theorem ok_join {sep : Str} (hs : StrOk sep) : ∀ {ys : List Str}, (∀ y ∈ ys, StrOk y) → StrOk (Str.join sep ys)
  | [], _ => (by decide +kernel : StrOk Str.empty)
  | [y], h => h y List.mem_cons_self
  | y :: z :: r, h => good_app (good_app (h y List.mem_cons_self) hs) (ok_join hs fun x hx => h x (List.mem_cons_of_mem _ hx))
theorem at_n {α : Type} {xs : List α} {z : Int} {j : Nat} {v : α} (e : z = (j : Int)) (h : xs[j]? = some v) : atI xs z = some v := by
  rw [e]
  exact atI_nat h
theorem bigPos (n : Nat) : (0 : Int) < (10 : Int) ^ n := Int.pow_pos (by decide)

section
variable {P : Program} {w : World} {K : PySem.W.Frag} {mg : Str → Option Value} {base : Heap} {A : Ad}
/-! ### _law_pen(x) -/
def spPen : Sp := fun vs H Q _ => ∃ x : Int, vs = [.int x] ∧ ∀ (G : Hp) (z : Str), Same H G → StrOk z → Q (.str z) G
theorem scPen : FnScope ["_law_x", "_law_letters", "_law_k"] ["_law_x"] (defScope sLPen) := ⟨rfl, rfl, rfl, by decide +kernel, rfl, by decide +kernel, by decide +kernel⟩
theorem letters_len : ("abcdefghijklmnopqrstuvwxyz" : Str).cps.toList.length = 26 := by decide +kernel
theorem letters_ok : ("abcdefghijklmnopqrstuvwxyz" : Str).cps.toList.all (· < 0x110000) = true := by decide +kernel
theorem ok_pen (T : Txt K mg A) : Kp P w K mg base 1 A.lPen spPen := by
  refine kp_of T.d_lPen scPen (fun vs H Q E h => ?_) (fun fd cdv B outer s H vs Q E hr h => ?_)
  · obtain ⟨_, rfl, _⟩ := h
    rfl
  · obtain ⟨x, rfl, q⟩ := h
    refine ⟨_, pss_cons (ps_set (i := 1) scPen.nd rfl (Or.inr rfl) pe_str) (pss_one (ps_ret (pe_join pe_str
      (pe_lc (own := [("_law_k", 2)]) (g := gName 2) rfl scPen.nd (pi_range1 rfl T.z_range (pa_cons (pe_op op_add pe_int (pe_op op_mod (pv 0) pe_int)) pa_nil))
        (blkOk_by (own := [("_law_k", 2)]) (N := ["_law_x", "_law_letters", "_law_k"]) (sc := defScope sLPen) (by decide +kernel)) (fun _ _ _ _ _ => pg_name (i := 2) scPen.nd rfl (Or.inl rfl)) (fun _ _ _ _ _ => pts_nil)
        (fun _ _ _ _ _ => pe_ix ix_str (pv 1) (pe_op op_mod (pe_op op_fdivN (pv 0) (pe_op op_add pe_int (pe_op op_mul pe_int (pv 2)))) pe_int) (fun _ _ => rfl)))))), ?_⟩
    refine ⟨⟨_, rfl⟩, _, rfl, _, _, rfl, rfl, (by show (0 : Int) < 8; decide), _, _, rfl, rfl, ?_⟩
    have m0 := Int.emod_nonneg x (show (8 : Int) ≠ 0 by decide)
    have m1 := Int.emod_lt_of_pos x (show (0 : Int) < 8 by decide)
    refine ⟨_, rfl, by omega, by omega, fun D hD => ?_⟩
    refine lc_range (lo := 0) (n := (1 + x % 8).toNat) (fun i G => Same H G ∧ ∃ ys : List Str, G D = some (.lst (ys.map V.str)) ∧ ys.length = i ∧ ∀ y ∈ ys, y.length = 1 ∧ StrOk y) ⟨same_new hD, [], upd_same, rfl, fun y hy => nomatch hy⟩ ?_ ?_
    · rintro i G hi ⟨sm, ys, e, hl, hy⟩
      refine ⟨rfl, ?_⟩
      refine yes_if ?_
      refine ⟨_, rfl, _, rfl, _, rfl, _, _, rfl, rfl, .inl ⟨by decide, by decide⟩, _, _, rfl, rfl, _, _, rfl, rfl, ⟨by omega, by omega⟩, _, _, rfl, rfl, (by show (0 : Int) < 26; decide), ?_⟩
      have k0 := Int.emod_nonneg (x.fdiv (1 + 3 * (0 + (i : Int)))) (show (26 : Int) ≠ 0 by decide)
      have k1 := Int.emod_lt_of_pos (x.fdiv (1 + 3 * (0 + (i : Int)))) (show (0 : Int) < 26 by decide)
      generalize hj : x.fdiv (1 + 3 * (0 + (i : Int))) % 26 = j at k0 k1
      have jl : j.toNat < ("abcdefghijklmnopqrstuvwxyz" : Str).cps.toList.length := by
        rw [letters_len]
        omega
      obtain ⟨c, hc⟩ : ∃ c, ("abcdefghijklmnopqrstuvwxyz" : Str).cps.toList[j.toNat]? = some c := ⟨_, List.getElem?_eq_getElem jl⟩
      have cok : c < 0x110000 := of_decide_eq_true (List.all_eq_true.mp letters_ok c (List.mem_of_getElem? hc))
      refine ⟨_, _, c, rfl, rfl, by decide +kernel, at_n (j := j.toNat) (by show x.fdiv (1 + 3 * (0 + (i : Int))) % 26 = _; rw [hj]; omega) hc, ?_⟩
      refine ⟨_, e, by rw [List.length_map, hl, sizeLine_eq]; omega, same_put sm hD, ys ++ [⟨#[c]⟩], ?_, by rw [List.length_append, hl]; rfl, fun y hm => ?_⟩
      · rw [upd_same, List.map_append]
        rfl
      · rcases List.mem_append.mp hm with z | z
        · exact hy y z
        · rw [List.mem_singleton.mp z]
          exact ⟨rfl, by show (#[c].all (· < 0x110000)) = true; simp [cok]⟩
    · rintro G ⟨sm, ys, e, hl, hy⟩
      refine ⟨_, D, ys, rfl, rfl, .inl (.of e), ?_, ?_⟩
      · have sum1 : ∀ l : List Str, (∀ y ∈ l, y.length = 1) → (l.map (·.length)).sum = l.length := by
          intro l
          induction l with
          | nil => exact fun _ => rfl
          | cons y r ih =>
            intro h
            rw [List.map_cons, List.sum_cons, h y List.mem_cons_self, ih fun z hz => h z (List.mem_cons_of_mem _ hz), List.length_cons]
            omega
        rw [sum1 ys fun y hm => (hy y hm).1]
        have e0 : ("" : Str).length = 0 := by decide +kernel
        rw [e0]
        omega
      · refine q G _ sm ?_
        rw [TL.join_eq]
        exact ok_join (by decide +kernel) fun y hm => (hy y hm).2
/-! ### _law_slot(x, y) -/
def spSlot : Sp := fun vs H Q _ => ∃ x y : Int, vs = [.int x, .int y] ∧ ∀ (G : Hp) (p : Addr) (s3 : S3), Same H G → H p = none → G p = some (.tup (v3 s3)) → StrOk s3.1 → Q (.ref p) G
theorem scSlot : FnScope ["_law_x", "_law_y"] ["_law_x", "_law_y"] (defScope sLSlot) := ⟨rfl, rfl, rfl, by decide +kernel, rfl, by decide +kernel, by decide +kernel⟩
theorem three_at {a b c : Str} (ha : StrOk a) (hb : StrOk b) (hc : StrOk c) (y : Int) : ∃ z : Str, StrOk z ∧ atI [V.str a, V.str b, V.str c] (y % 3) = some (.str z) := by
  have k0 := Int.emod_nonneg y (show (3 : Int) ≠ 0 by decide)
  have k1 := Int.emod_lt_of_pos y (show (0 : Int) < 3 by decide)
  have h : y % 3 = 0 ∨ y % 3 = 1 ∨ y % 3 = 2 := by omega
  rcases h with e | e | e
  · rw [e]
    exact ⟨a, ha, rfl⟩
  · rw [e]
    exact ⟨b, hb, rfl⟩
  · rw [e]
    exact ⟨c, hc, rfl⟩
theorem ok_slot (T : Txt K mg A) : Kp P w K mg base 2 A.lSlot spSlot := by
  refine kp_of T.d_lSlot scSlot (fun vs H Q E h => ?_) (fun fd cdv B outer s H vs Q E hr h => ?_)
  · obtain ⟨_, _, rfl, _⟩ := h
    rfl
  · obtain ⟨x, y, rfl, q⟩ := h
    refine ⟨_, pss_cons (ps_if (pt_cmpR op_eq (pe_op op_mod (pv 0) pe_int) pe_int (nomark _))
        (pss_one (ps_ret (pe_tup (pa_cons pe_str (pa_cons pe_int (pa_cons (pe_op op_add pe_int (pe_op op_mod (pv 1) pe_int)) pa_nil)))))) pss_nil)
      (pss_cons (ps_if (pt_cmpR op_eq (pe_op op_mod (pv 0) pe_int) pe_int (nomark _))
        (pss_one (ps_ret (pe_tup (pa_cons (pe_ix ix_list (pe_lst (pa_cons pe_str (pa_cons pe_str (pa_cons pe_str pa_nil)))) (pe_op op_mod (pv 1) pe_int) (fun _ _ => rfl))
          (pa_cons (pe_op op_add pe_int (pe_op op_mod (pe_op op_fdiv (pv 1) pe_int) pe_int)) (pa_cons (pe_op op_add pe_int (pe_op op_mod (pe_op op_fdiv (pv 0) pe_int) pe_int)) pa_nil)))))) pss_nil)
      (pss_one (ps_ret (pe_tup (pa_cons (pe_f (ok_pen T) T.g_lPen hr (by decide) (pa_cons (pe_op op_mul (pe_op op_mod (pv 1) pe_int) pe_int) pa_nil))
        (pa_cons (pe_op op_add pe_int (pe_op op_mod (pv 0) (pe_op op_pow pe_int pe_int))) (pa_cons (pe_op op_add pe_int (pe_op op_mod (pe_op op_fdiv (pv 1) pe_int) pe_int)) pa_nil))))))), ?_⟩
    refine ⟨_, rfl, _, _, rfl, rfl, (by show (0 : Int) < 4; decide), rfl, _, rfl, ite2 (fun _ => ?_) (fun _ => ?_)⟩
    · refine ⟨_, rfl, _, _, rfl, rfl, (by show (0 : Int) < 300; decide), _, _, rfl, rfl, by show 3 ≤ sizeLine; decide, fun p hp => ?_⟩
      exact q _ p ("", 0, 1 + y % 300) (same_new hp) hp upd_same (by show StrOk ("" : Str); decide +kernel)
    · refine ⟨_, rfl, _, _, rfl, rfl, (by show (0 : Int) < 4; decide), rfl, _, rfl, ite2 (fun _ => ?_) (fun _ => ?_)⟩
      · obtain ⟨z, zo, hz⟩ := three_at (a := "ann") (b := "anna") (c := "bob") (by decide +kernel) (by decide +kernel) (by decide +kernel) y
        refine ⟨by show 3 ≤ sizeLine; decide, fun l hl => ?_⟩
        refine ⟨_, rfl, _, _, rfl, rfl, (by show (0 : Int) < 3; decide), l, _, _, .str z, rfl, rfl, .of upd_same, hz, ?_⟩
        refine ⟨_, rfl, _, _, rfl, rfl, ⟨by decide, by decide⟩, _, _, rfl, rfl, (by show (0 : Int) < 3; decide), _, _, rfl, rfl, _, rfl, _, _, rfl, rfl, ⟨by decide, by decide⟩, _, _, rfl, rfl, (by show (0 : Int) < 60; decide), _, _, rfl, rfl, by show 3 ≤ sizeLine; decide, fun p hp => ?_⟩
        exact q _ p (z, 1 + y / 3 % 3, 1 + x / 4 % 60) ((same_new hl).trans (same_new hp)) (Same.free (same_new hl) hp) upd_same zo
      · refine ⟨_, rfl, _, _, rfl, rfl, (by show (0 : Int) < 4; decide), _, _, rfl, rfl, .inr ⟨by decide, by decide⟩, _, rfl, fun G z sm zo => ?_⟩
        refine ⟨_, rfl, _, _, rfl, rfl, ⟨by decide, by decide, by decide⟩, _, _, rfl, rfl, bigPos _, _, _, rfl, rfl, ?_⟩
        refine ⟨_, rfl, _, _, rfl, rfl, ⟨by decide, by decide⟩, _, _, rfl, rfl, (by show (0 : Int) < 60; decide), _, _, rfl, rfl, by show 3 ≤ sizeLine; decide, fun p hp => ?_⟩
        exact q _ p (z, 1 + x % 10 ^ (9 : Int).toNat, 1 + y / 4 % 60) (sm.trans (same_new hp)) (Same.free sm hp) upd_same zo
end
end Rq

/-! The law's own defs: names, acts. -/
namespace Rq
open PySem PySem.Spec PyProof.Rows L2
theorem int_at {ns : List Int} {z : Int} (h0 : 0 ≤ z) (h1 : z < (ns.length : Int)) : ∃ n, atI (ns.map V.int) z = some (.int n) := by
  have hl : z.toNat < ns.length := by omega
  refine ⟨ns[z.toNat], at_n (j := z.toNat) (by omega) ?_⟩
  rw [List.getElem?_map, List.getElem?_eq_getElem hl]
  rfl
theorem hu65 {A : Around} {k : Nat} (hr : Room k A) : A.units + 65 < cLine := by
  have := hr.un
  omega
section
variable {P : Program} {w : World} {K : PySem.W.Frag} {mg : Str → Option Value} {base : Heap} {A : Ad}
/-! ### _law_names(xs) -/
def spNames (K : PySem.W.Frag) : Sp := fun vs H Q _ => ∃ (a : Addr) (ns : List Int), vs = [.ref a] ∧ SqL K H a (ns.map V.int) ∧ 11 ≤ ns.length ∧ ∀ (G : Hp) (t : Addr) (ps : List (Addr × S3)), Same H G → NmAt G t ps → (∀ p ∈ ps, StrOk p.2.1) → Q (.ref t) G
theorem scNames : FnScope ["_law_xs", "_law_names_here", "_law_k", "_law_slot_here"] ["_law_xs"] (defScope sLNames) := ⟨rfl, rfl, rfl, by decide +kernel, rfl, by decide +kernel, by decide +kernel⟩
theorem ok_names (T : Txt K mg A) : Kp P w K mg base 3 A.lNames (spNames K) := by
  refine kp_of T.d_lNames scNames (fun vs H Q E h => ?_) (fun fd cdv B outer s H vs Q E hr h => ?_)
  · obtain ⟨_, _, rfl, _⟩ := h
    rfl
  · obtain ⟨a, ns, rfl, hS, hn, q⟩ := h
    refine ⟨_, pss_cons (ps_set (i := 1) scNames.nd rfl (Or.inl rfl) (pe_lst pa_nil))
      (pss_cons (ps_for PassesOwn.never rfl (pi_range1 rfl T.z_range (pa_cons (pe_op op_add pe_int (pe_op op_mod (pe_ix ix_list (pv 0) pe_int (fun _ _ => rfl)) pe_int)) pa_nil)) (pg_name (i := 2) scNames.nd rfl (Or.inl rfl))
        (pss_cons (ps_set (i := 3) scNames.nd rfl (Or.inl rfl) (pe_f (ok_slot T) T.g_lSlot hr (by decide) (pa_cons (pe_ix ix_list (pv 0) (pe_op op_add pe_int (pv 2)) (fun _ _ => rfl)) (pa_cons (pe_ix ix_list (pv 0) (pe_op op_sub pe_int (pv 2)) (fun _ _ => rfl)) pa_nil))))
          (pss_one (ps_if (pt_cmpR (op_notInD (hu65 hr)) (pv 3) (pv 1) (by rfl))
            (pss_one (ps_expr (pe_bm PySem.F.plainAttrs_list PySem.F.slot_list_append PySem.F.type_list_append mt_append (pv 1) (pa_cons (pv 3) pa_nil)))) pss_nil))))
      (pss_one (ps_ret (pe_callTy call_tuple_of (by rfl) T.z_tuple (by decide +kernel) (pa_cons (pv 1) pa_nil))))), ?_⟩
    refine ⟨Nat.zero_le _, fun D hD => ?_⟩
    obtain ⟨n0, e0⟩ := int_at (ns := ns) (z := 0) (by decide) (by omega)
    have s0 : Same H (upd H D (.lst [])) := same_new hD
    have m0 := Int.emod_nonneg n0 (show (9 : Int) ≠ 0 by decide)
    have m1 := Int.emod_lt_of_pos n0 (show (0 : Int) < 9 by decide)
    refine ⟨_, rfl, a, _, 0, .int n0, rfl, rfl, s0.seq hS, e0, _, _, rfl, rfl, (by show (0 : Int) < 9; decide), _, _, rfl, rfl, _, rfl, by omega, by omega, ?_⟩
    refine for_range (lo := 0) (n := (1 + n0 % 9).toNat) (fun i σ G => ∃ (ps : List (Addr × S3)) (y2 y3 : Option V), σ = [some (.ref a), some (.ref D), y2, y3] ∧ Same H G ∧ G D = some (.lst (ps.map fun p => V.ref p.1)) ∧ (∀ p ∈ ps, G p.1 = some (.tup (v3 p.2))) ∧ (∀ p ∈ ps, StrOk p.2.1) ∧ ps.length ≤ i)
      ⟨[], none, none, rfl, s0, upd_same, fun p hp => (nomatch hp), fun p hp => (nomatch hp), Nat.le_refl _⟩ ?_ ?_
    · rintro i σ G hi ⟨ps, y2, y3, rfl, sm, e, each, good, hl⟩
      have i9 : i < 9 := by omega
      obtain ⟨n1, e1⟩ := int_at (ns := ns) (z := 1 + (0 + (i : Int))) (by omega) (by omega)
      obtain ⟨n2, e2⟩ := int_at (ns := ns) (z := 10 - (0 + (i : Int))) (by omega) (by omega)
      refine ⟨_, rfl, _, rfl, _, _, rfl, rfl, a, _, _, .int n1, rfl, rfl, sm.seq hS, e1, _, rfl, _, rfl, _, _, rfl, rfl, a, _, _, .int n2, rfl, rfl, sm.seq hS, e2, ?_⟩
      refine ⟨n1, n2, rfl, fun G1 p s3 sm1 np hp go => ?_⟩
      have eD : G1 D = some (.lst (ps.map fun p => V.ref p.1)) := sm1 _ _ e
      have each1 : ∀ p ∈ ps, G1 p.1 = some (.tup (v3 p.2)) := fun x hx => sm1 _ _ (each x hx)
      refine ⟨_, rfl, _, rfl, d3 s3, (ps.map (·.2)).map d3, dp3 hp, .lst (.of eD) (dp_refs each1), (lay_d3 0 go).shaped (by decide), (lay_list (layAll_map (n := 1) (g := d3) fun x hx => ?_)).shaped (by decide), _, rfl, ite2 (fun _ => ?_) (fun _ => ?_)⟩
      · obtain ⟨z, hz, ez⟩ := List.mem_map.mp hx
        rw [← ez]
        exact lay_d3 0 (good z hz)
      · refine ⟨_, rfl, .inl ⟨rfl, _, .of eD⟩, _, rfl, D, _, _, rfl, rfl, eD, by rw [List.length_map, sizeLine_eq]; omega, ?_⟩
        have nD : ∀ b o, G1 b = some (.tup o) → b ≠ D := fun b o z => ne_of z eD (by intro y; cases y)
        refine ⟨ps ++ [(p, s3)], _, _, rfl, same_put (sm.trans sm1) hD, ?_, fun x hx => ?_, fun x hx => ?_, by rw [List.length_append]; exact Nat.succ_le_succ hl⟩
        · rw [upd_same, List.map_append]
          rfl
        · rcases List.mem_append.mp hx with z | z
          · rw [upd_ne (nD _ _ (each1 x z))]
            exact each1 x z
          · rw [List.mem_singleton.mp z, upd_ne (nD _ _ hp)]
            exact hp
        · rcases List.mem_append.mp hx with z | z
          · exact good x z
          · rw [List.mem_singleton.mp z]
            exact go
      · exact ⟨ps, _, _, rfl, sm.trans sm1, eD, each1, good, Nat.le_succ_of_le hl⟩
    · rintro σ G ⟨ps, y2, y3, rfl, sm, e, each, good, hl⟩
      refine ⟨_, rfl, D, _, rfl, .inl ⟨.of e, fun t ht => ?_⟩⟩
      have s2 := same_new (o := .tup (ps.map fun p => V.ref p.1)) ht
      exact q _ t ps (sm.trans s2) ⟨upd_same, fun p hp => s2 _ _ (each p hp), by omega⟩ good
end
end Rq

/-! The law's own defs: acts. -/
namespace Rq
open PySem PySem.Spec PyProof.Rows L2
theorem tail_of (xs : List V) (h : 1 ≤ xs.length) : cutV xs (some 1) none = xs.drop 1 := by
  unfold cutV
  rw [show HT.sIx xs.length 0 (some 1) = min 1 xs.length from HT.sIx_nat xs.length 0 1, HT.sIx_none, Nat.min_eq_left h]
  rw [← List.length_drop]
  exact List.take_length
theorem five_at {a b c d e : Str} (ha : StrOk a ∧ a.length = 1) (hb : StrOk b ∧ b.length = 1) (hc : StrOk c ∧ c.length = 1) (hd : StrOk d ∧ d.length = 1) (he : StrOk e ∧ e.length = 1) (y : Int) :
    ∃ z : Str, (StrOk z ∧ z.length = 1) ∧ atI [V.str a, V.str b, V.str c, V.str d, V.str e] (y % 5) = some (.str z) := by
  have k0 := Int.emod_nonneg y (show (5 : Int) ≠ 0 by decide)
  have k1 := Int.emod_lt_of_pos y (show (0 : Int) < 5 by decide)
  have h : y % 5 = 0 ∨ y % 5 = 1 ∨ y % 5 = 2 ∨ y % 5 = 3 ∨ y % 5 = 4 := by omega
  rcases h with q | q | q | q | q
  · rw [q]
    exact ⟨a, ha, rfl⟩
  · rw [q]
    exact ⟨b, hb, rfl⟩
  · rw [q]
    exact ⟨c, hc, rfl⟩
  · rw [q]
    exact ⟨d, hd, rfl⟩
  · rw [q]
    exact ⟨e, he, rfl⟩
theorem four_at {P : V → Prop} {a b c d : V} (ha : P a) (hb : P b) (hc : P c) (hd : P d) (y : Int) : ∃ z, P z ∧ atI [a, b, c, d] (y % 4) = some z := by
  have k0 := Int.emod_nonneg y (show (4 : Int) ≠ 0 by decide)
  have k1 := Int.emod_lt_of_pos y (show (0 : Int) < 4 by decide)
  have h : y % 4 = 0 ∨ y % 4 = 1 ∨ y % 4 = 2 ∨ y % 4 = 3 := by omega
  rcases h with q | q | q | q
  · rw [q]
    exact ⟨a, ha, rfl⟩
  · rw [q]
    exact ⟨b, hb, rfl⟩
  · rw [q]
    exact ⟨c, hc, rfl⟩
  · rw [q]
    exact ⟨d, hd, rfl⟩
/-- at p an act -/
structure ActAt (H : Hp) (p : Addr) (ad : AD) : Prop where
  at_ : H p = some (.tup ad.vs)
  ok : ad.Ok H
  fine : ad.Fine
  ns : ad.kd ≠ .s
theorem ActAt.same {H H' : Hp} {p : Addr} {ad : AD} (h : ActAt H p ad) (s : Same H H') : ActAt H' p ad := ⟨s _ _ h.at_, h.ok.same s, h.fine, h.ns⟩
section
variable {P : Program} {w : World} {K : PySem.W.Frag} {mg : Str → Option Value} {base : Heap} {A : Ad}
/-! ### _law_act(xs) -/
def spAct (K : PySem.W.Frag) : Sp := fun vs H Q _ => ∃ (a : Addr) (ns : List Int), vs = [.ref a] ∧ SqL K H a (ns.map V.int) ∧ ns.length = 16 ∧ ∀ (G : Hp) (p : Addr) (ad : AD), Same H G → ActAt G p ad → Q (.ref p) G
theorem scAct : FnScope ["_law_xs", "_law_names_here", "_law_anchor", "_law_sign", "_law_some"] ["_law_xs"] (defScope sLAct) := ⟨rfl, rfl, rfl, by decide +kernel, rfl, by decide +kernel, by decide +kernel⟩
theorem ok_act (T : Txt K mg A) : Kp P w K mg base 4 A.lAct (spAct K) := by
  refine kp_of T.d_lAct scAct (fun vs H Q E h => ?_) (fun fd cdv B outer s H vs Q E hr h => ?_)
  · obtain ⟨_, _, rfl, _⟩ := h
    rfl
  · obtain ⟨a, ns, rfl, hS, hn, q⟩ := h
    refine ⟨_, pss_cons (ps_set (i := 1) scAct.nd rfl (Or.inl rfl) (pe_f (ok_names T) T.g_lNames hr (by decide) (pa_cons (pe_slice sl_list (pv 0) (po_some pe_int) po_none) pa_nil)))
      (pss_cons (ps_set (i := 2) scAct.nd rfl (Or.inl rfl) (pe_f (ok_slot T) T.g_lSlot hr (by decide) (pa_cons (pe_ix ix_list (pv 0) pe_int (fun _ _ => rfl)) (pa_cons (pe_ix ix_list (pv 0) pe_int (fun _ _ => rfl)) pa_nil))))
      (C8.pss_cut (ps_if (pt_cmpR op_eq (pe_op op_mod (pe_ix ix_list (pv 0) pe_int (fun _ _ => rfl)) pe_int) pe_int (nomark _)) (pss_one (ps_set (i := 2) scAct.nd rfl (Or.inl rfl) (pe_tup (pa_cons pe_str (pa_cons pe_int (pa_cons pe_int pa_nil)))))) pss_nil)
      (pss_cons (ps_set (i := 3) scAct.nd rfl (Or.inl rfl) (pe_ix ix_list (pe_lst (pa_cons pe_str (pa_cons pe_str (pa_cons pe_str (pa_cons pe_str (pa_cons pe_str pa_nil)))))) (pe_op op_mod (pe_ix ix_list (pv 0) pe_int (fun _ _ => rfl)) pe_int) (fun _ _ => rfl)))
      (pss_cons (ps_set (i := 4) scAct.nd rfl (Or.inl rfl) (pe_lst (pa_cons (pe_tup (pa_cons pe_str (pa_cons (pv 2) (pa_cons (pe_op op_add_str (pe_op op_repS pe_str (pe_op op_mod (pe_ix ix_list (pv 0) pe_int (fun _ _ => rfl)) pe_int)) (pv 3)) pa_nil))))
          (pa_cons (pe_tup (pa_cons pe_str (pa_cons (pv 1) pa_nil))) (pa_cons (pe_tup (pa_cons pe_str (pa_cons (pv 1) (pa_cons (pv 2) pa_nil)))) pa_nil)))))
      (pss_one (ps_ret (pe_ix ix_list (pe_op op_cat (pv 4) (pe_lst (pa_cons (pe_tup (pa_cons pe_str (pa_cons (pv 1) (pa_cons (pe_ix ix_list (pe_lst (pa_cons pe_str (pa_cons pe_str (pa_cons pe_str pa_nil)))) (pe_op op_mod (pe_ix ix_list (pv 0) pe_int (fun _ _ => rfl)) pe_int) (fun _ _ => rfl)) pa_nil)))) pa_nil)))
          (pe_op op_mod (pe_ix ix_list (pv 0) pe_int (fun _ _ => rfl)) pe_int) (fun _ _ => rfl)))))))), ?_⟩
    obtain ⟨n0, e0⟩ := int_at (ns := ns) (z := 0) (by decide) (by omega)
    obtain ⟨n2, e2⟩ := int_at (ns := ns) (z := 2) (by decide) (by omega)
    obtain ⟨n3, e3⟩ := int_at (ns := ns) (z := 3) (by decide) (by omega)
    obtain ⟨n12, e12⟩ := int_at (ns := ns) (z := 12) (by decide) (by omega)
    obtain ⟨n13, e13⟩ := int_at (ns := ns) (z := 13) (by decide) (by omega)
    -- the names
    refine ⟨.ref a, rfl, 1, rfl, a, _, rfl, hS, fun c hc => ?_⟩
    have s1 : Same H (upd H c (.lst (cutV (ns.map V.int) (some 1) none))) := same_new hc
    have cut : cutV (ns.map V.int) (some 1) none = (ns.drop 1).map V.int := by
      rw [tail_of _ (by rw [List.length_map]; omega), List.map_drop]
    refine ⟨c, ns.drop 1, rfl, by rw [cut]; exact .of upd_same, by rw [List.length_drop]; omega, fun G1 t ps g1 nm good => ?_⟩
    have sm1 := s1.trans g1
    -- the anchor
    refine ⟨.ref a, rfl, a, _, 12, .int n12, rfl, rfl, sm1.seq hS, e12, .ref a, rfl, a, _, 13, .int n13, rfl, rfl, sm1.seq hS, e13, ?_⟩
    refine ⟨n12, n13, rfl, fun G2 pa s3 g2 _ hpa gpa => ?_⟩
    have sm2 := sm1.trans g2
    have nm2 := nm.same g2
    refine ⟨fun σ G => ∃ an : Addr × S3, σ = [some (.ref a), some (.ref t), some (.ref an.1), none, none] ∧ Same G2 G ∧ G an.1 = some (.tup (v3 an.2)) ∧ StrOk an.2.1, ?_, ?_⟩
    · refine ⟨.ref a, rfl, a, _, 12, .int n12, rfl, rfl, sm2.seq hS, e12, _, _, rfl, rfl, (by show (0 : Int) < 7; decide), rfl, _, rfl, ite2 (fun _ => ?_) (fun _ => ?_)⟩
      · refine ⟨by show 3 ≤ sizeLine; decide, fun p hp => ?_⟩
        exact ⟨(p, "", 0, 0), rfl, same_new hp, upd_same, by show StrOk ("" : Str); decide +kernel⟩
      · exact ⟨(pa, s3), rfl, Same.refl _, hpa, gpa⟩
    · rintro σ G ⟨an, rfl, g3, han, gan⟩
      have sm3 := sm2.trans g3
      have nm3 := nm2.same g3
      -- the sign
      refine ⟨by show 5 ≤ sizeLine; decide, fun l5 n5 => ?_⟩
      have g4 := same_new (o := .lst [V.str "a", V.str " ", V.str "\n", V.str "\\", V.str "~"]) n5
      obtain ⟨sg, ⟨so, sl⟩, es⟩ := five_at (a := "a") (b := " ") (c := "\n") (d := "\\") (e := "~") ⟨by decide +kernel, by decide +kernel⟩ ⟨by decide +kernel, by decide +kernel⟩ ⟨by decide +kernel, by decide +kernel⟩ ⟨by decide +kernel, by decide +kernel⟩ ⟨by decide +kernel, by decide +kernel⟩ n3
      refine ⟨.ref a, rfl, a, _, 3, .int n3, rfl, rfl, (sm3.trans g4).seq hS, e3, _, _, rfl, rfl, (by show (0 : Int) < 5; decide), l5, _, _, .str sg, rfl, rfl, .of upd_same, es, ?_⟩
      have sm4 := sm3.trans g4
      have nm4 := nm3.same g4
      have han4 := g4 _ _ han
      generalize upd G l5 (.lst [V.str "a", V.str " ", V.str "\n", V.str "\\", V.str "~"]) = G4 at sm4 nm4 han4 ⊢
      -- the three
      have m0 := Int.emod_nonneg n2 (show (60 : Int) ≠ 0 by decide)
      have m1 := Int.emod_lt_of_pos n2 (show (0 : Int) < 60 by decide)
      refine ⟨_, rfl, .ref a, rfl, a, _, 2, .int n2, rfl, rfl, sm4.seq hS, e2, _, _, rfl, rfl, (by show (0 : Int) < 60; decide), _, _, rfl, rfl, by decide +kernel, by decide +kernel, m0, by omega, fun q1 ql qo => ?_⟩
      refine ⟨_, rfl, _, _, rfl, rfl, by rw [ql, sl, sizeLine_eq]; omega, by show 3 ≤ sizeLine; decide, fun p1 h1 => ?_⟩
      have zl : (q1 ++ sg).length ≤ 60 := by
        have e : (q1 ++ sg).length = q1.length + sg.length := Array.size_append
        rw [e, ql, sl]
        omega
      have a1 : ActAt (upd G4 p1 (.tup [.str "put", .ref an.1, .str (q1 ++ sg)])) p1 (.put an (q1 ++ sg)) := ⟨upd_same, ⟨same_new h1 _ _ han4, zl⟩, ⟨gan, good_app qo so⟩, by intro z; cases z⟩
      have g5 := same_new (o := .tup [.str "put", .ref an.1, .str (q1 ++ sg)]) h1
      have sm5 := sm4.trans g5
      have nm5 := nm4.same g5
      have han5 := g5 _ _ han4
      generalize upd G4 p1 (.tup [.str "put", .ref an.1, .str (q1 ++ sg)]) = G5 at a1 sm5 nm5 han5 ⊢
      refine ⟨_, rfl, by show 2 ≤ sizeLine; decide, fun p2 h2 => ?_⟩
      have g6 := same_new (o := .tup [.str "strike", .ref t]) h2
      have a2 : ActAt (upd G5 p2 (.tup [.str "strike", .ref t])) p2 (.strike t ps) := ⟨upd_same, NmAt.same nm5 g6, good, by intro z; cases z⟩
      have a1' := a1.same g6
      have sm6 := sm5.trans g6
      have nm6 := nm5.same g6
      have han6 := g6 _ _ han5
      generalize upd G5 p2 (.tup [.str "strike", .ref t]) = G6 at a1' a2 sm6 nm6 han6 ⊢
      refine ⟨_, rfl, _, rfl, by show 3 ≤ sizeLine; decide, fun p3 h3 => ?_⟩
      have g7 := same_new (o := .tup [.str "move", .ref t, .ref an.1]) h3
      have a3 : ActAt (upd G6 p3 (.tup [.str "move", .ref t, .ref an.1])) p3 (.move t ps an) := ⟨upd_same, ⟨NmAt.same nm6 g7, g7 _ _ han6⟩, ⟨good, gan⟩, by intro z; cases z⟩
      have a1'' := a1'.same g7
      have a2' := a2.same g7
      have sm7 := sm6.trans g7
      have nm7 := nm6.same g7
      generalize upd G6 p3 (.tup [.str "move", .ref t, .ref an.1]) = G7 at a1'' a2' a3 sm7 nm7 ⊢
      refine ⟨by show 3 ≤ sizeLine; decide, fun l3 hl3 => ?_⟩
      have g8 := same_new (o := .lst [V.ref p1, V.ref p2, V.ref p3]) hl3
      have c1 := a1''.same g8
      have c2 := a2'.same g8
      have c3 := a3.same g8
      have sm8 := sm7.trans g8
      have nm8 := nm7.same g8
      have hl : upd G7 l3 (.lst [V.ref p1, V.ref p2, V.ref p3]) l3 = some (.lst [V.ref p1, V.ref p2, V.ref p3]) := upd_same
      generalize upd G7 l3 (.lst [V.ref p1, V.ref p2, V.ref p3]) = G8 at c1 c2 c3 sm8 nm8 hl ⊢
      -- the fourth
      refine ⟨.ref l3, rfl, _, rfl, by show 3 ≤ sizeLine; decide, fun l6 n6 => ?_⟩
      have g9 := same_new (o := .lst [V.str "", V.str "bold", V.str "underlin"]) n6
      obtain ⟨wd, wo, ew⟩ := three_at (a := "") (b := "bold") (c := "underlin") (by decide +kernel) (by decide +kernel) (by decide +kernel) n2
      refine ⟨.ref a, rfl, a, _, 2, .int n2, rfl, rfl, (sm8.trans g9).seq hS, e2, _, _, rfl, rfl, (by show (0 : Int) < 3; decide), l6, _, _, .str wd, rfl, rfl, .of upd_same, ew, by show 3 ≤ sizeLine; decide, fun p4 h4 => ?_⟩
      have g10 := g9.trans (same_new (o := .tup [.str "dress", .ref t, .str wd]) h4)
      have a4 : ActAt (upd (upd G8 l6 (.lst [V.str "", V.str "bold", V.str "underlin"])) p4 (.tup [.str "dress", .ref t, .str wd])) p4 (.dress t ps wd) := ⟨upd_same, NmAt.same nm8 g10, ⟨good, wo⟩, by intro z; cases z⟩
      have d1 := c1.same g10
      have d2 := c2.same g10
      have d3' := c3.same g10
      have sm9 := sm8.trans g10
      have hl' := g10 _ _ hl
      generalize upd (upd G8 l6 (.lst [V.str "", V.str "bold", V.str "underlin"])) p4 (.tup [.str "dress", .ref t, .str wd]) = G9 at a4 d1 d2 d3' sm9 hl' ⊢
      refine ⟨by show 1 ≤ sizeLine; decide, fun l1 hl1 => ?_⟩
      have g11 := same_new (o := .lst [V.ref p4]) hl1
      refine ⟨l3, l1, _, _, rfl, rfl, g11 _ _ hl', upd_same, by show 3 + 1 ≤ sizeLine; decide, fun l4 hl4 => ?_⟩
      have g12 := g11.trans (same_new (o := .lst ([V.ref p1, V.ref p2, V.ref p3] ++ [V.ref p4])) hl4)
      obtain ⟨z, ⟨pz, adz, rfl, az⟩, ez⟩ := four_at (P := fun z => ∃ (p : Addr) (ad : AD), z = V.ref p ∧ ActAt (upd (upd G9 l1 (.lst [V.ref p4])) l4 (.lst ([V.ref p1, V.ref p2, V.ref p3] ++ [V.ref p4]))) p ad)
        ⟨_, _, rfl, d1.same g12⟩ ⟨_, _, rfl, d2.same g12⟩ ⟨_, _, rfl, d3'.same g12⟩ ⟨_, _, rfl, a4.same g12⟩ n0
      refine ⟨.ref a, rfl, a, _, 0, .int n0, rfl, rfl, (sm9.trans g12).seq hS, e0, _, _, rfl, rfl, (by show (0 : Int) < 4; decide), l4, _, _, .ref pz, rfl, rfl, .of upd_same, ez, ?_⟩
      exact q _ pz adz (sm9.trans g12) az
end
end Rq

/-! The law's own defs: strokes made, what is due. -/
namespace Rq
open PySem PySem.Spec PyProof.Rows L2
section
variable {P : Program} {w : World} {K : PySem.W.Frag} {mg : Str → Option Value} {base : Heap} {A : Ad}
theorem Txt.mkOf (T : Txt K mg A) (k : Kd) : Mk K (A.cls k) (A.f_init k) := ⟨(T.cf k).makes, (T.m_init k).at_, (T.m_init k).fn, (T.cf k).kp⟩
/-! ### _law_made(name, time, act) -/
def spMade (A : Ad) : Sp := fun vs H Q _ => ∃ (tn : Addr) (nm : Nm) (tm : Int) (p : Addr) (ad : AD), vs = [.ref tn, .int tm, .ref p] ∧ H tn = some (.tup [.str nm.1, .int nm.2]) ∧ StrOk nm.1 ∧ ActAt H p ad ∧ ∀ (G : Hp) (x : Addr), Same H G → StAt A G x tn nm tm ad → Q (.ref x) G
theorem scMade : FnScope ["_law_name", "_law_time", "_law_act_here"] ["_law_name", "_law_time", "_law_act_here"] (defScope sLMade) := ⟨rfl, rfl, rfl, by decide +kernel, rfl, by decide +kernel, by decide +kernel⟩
/-- an instance laid and filled -/
theorem made_st {H : Hp} {x dx tn : Addr} {nm : Nm} {tm : Int} {ad : AD} {C : Addr} (nx : H x = none) (nd : H dx = none) (hn : H tn = some (.tup [.str nm.1, .int nm.2])) (g : StrOk nm.1) (ok : ad.Ok H) (fi : ad.Fine) (e : C = A.cls ad.kd) :
    Same H (upd (upd (upd H dx (.own x)) x (.ins C dx [])) x (.ins C dx (ad.fs (.ref tn) (.int tm)))) ∧ StAt A (upd (upd (upd H dx (.own x)) x (.ins C dx [])) x (.ins C dx (ad.fs (.ref tn) (.int tm)))) x tn nm tm ad := by
  have s := same_put (o := .ins C dx (ad.fs (.ref tn) (.int tm))) (same_put (o := .ins C dx []) (same_new (o := .own x) nd) nx) nx
  refine ⟨s, ⟨dx, ?_⟩, s _ _ hn, ok.same s, fi, g⟩
  rw [upd_same, e]
theorem ok_made (T : Txt K mg A) : Kp P w K mg base 5 A.lMade (spMade A) := by
  refine kp_of T.d_lMade scMade (fun vs H Q E h => ?_) (fun fd cdv B outer s H vs Q E hr h => ?_)
  · obtain ⟨_, _, _, _, _, rfl, _⟩ := h
    rfl
  · obtain ⟨tn, nm, tm, p, ad, rfl, hn, g, ac, q⟩ := h
    refine ⟨_, pss_cons (ps_if (pt_cmpR op_eq (pe_ix ix_tup (pv 2) pe_int (fun _ _ => rfl)) pe_str (nomark _))
        (pss_one (ps_ret (pe_new (ok_iP T) (T.mkOf .p) T.g_cP hr (by decide) (pa_cons (pv 0) (pa_cons (pv 1) (pa_cons (pe_ix ix_tup (pv 2) pe_int (fun _ _ => rfl)) (pa_cons (pe_ix ix_tup (pv 2) pe_int (fun _ _ => rfl)) pa_nil))))))) pss_nil)
      (pss_cons (ps_if (pt_cmpR op_eq (pe_ix ix_tup (pv 2) pe_int (fun _ _ => rfl)) pe_str (nomark _))
        (pss_one (ps_ret (pe_new (ok_iN T) (T.mkOf .k) T.g_cK hr (by decide) (pa_cons (pv 0) (pa_cons (pv 1) (pa_cons (pe_ix ix_tup (pv 2) pe_int (fun _ _ => rfl)) pa_nil)))))) pss_nil)
      (pss_cons (ps_if (pt_cmpR op_eq (pe_ix ix_tup (pv 2) pe_int (fun _ _ => rfl)) pe_str (nomark _))
        (pss_one (ps_ret (pe_new (ok_iD T) (T.mkOf .d) T.g_cD hr (by decide) (pa_cons (pv 0) (pa_cons (pv 1) (pa_cons (pe_ix ix_tup (pv 2) pe_int (fun _ _ => rfl)) (pa_cons (pe_ix ix_tup (pv 2) pe_int (fun _ _ => rfl)) pa_nil))))))) pss_nil)
      (pss_one (ps_ret (pe_new (ok_iM T) (T.mkOf .m) T.g_cM hr (by decide) (pa_cons (pv 0) (pa_cons (pv 1) (pa_cons (pe_ix ix_tup (pv 2) pe_int (fun _ _ => rfl)) (pa_cons (pe_ix ix_tup (pv 2) pe_int (fun _ _ => rfl)) pa_nil))))))))), ?_⟩
    cases ad with
    | non => exact absurd rfl ac.ns
    | put an z =>
      have at_ : SqT K H p [.str "put", .ref an.1, .str z] := .of ac.at_
      refine ⟨.ref p, rfl, p, _, 0, _, rfl, rfl, at_, rfl, rfl, _, rfl, ite2 (fun _ => ?_) (fun e => absurd (by decide +kernel) e)⟩
      refine ⟨_, rfl, _, rfl, .ref p, rfl, p, _, 1, _, rfl, rfl, at_, rfl, .ref p, rfl, p, _, 2, _, rfl, rfl, at_, rfl, fun x dx nx ndx nex => ?_⟩
      obtain ⟨s, st⟩ := made_st (A := A) (tm := tm) (ad := .put an z) (C := A.cP) nx ndx hn g ac.ok ac.fine rfl
      exact ⟨x, _, dx, .ref tn, .int tm, .ref an.1, .str z, rfl, T.cf .p, upd_same, rfl, q _ x s st⟩
    | strike t ps =>
      have at_ : SqT K H p [.str "strike", .ref t] := .of ac.at_
      refine ⟨.ref p, rfl, p, _, 0, _, rfl, rfl, at_, rfl, rfl, _, rfl, ite2 (fun e => absurd e (by decide +kernel)) (fun _ => ?_)⟩
      refine ⟨.ref p, rfl, p, _, 0, _, rfl, rfl, at_, rfl, rfl, _, rfl, ite2 (fun _ => ?_) (fun e => absurd (by decide +kernel) e)⟩
      refine ⟨_, rfl, _, rfl, .ref p, rfl, p, _, 1, _, rfl, rfl, at_, rfl, fun x dx nx ndx nex => ?_⟩
      obtain ⟨s, st⟩ := made_st (A := A) (tm := tm) (ad := .strike t ps) (C := A.cK) nx ndx hn g ac.ok ac.fine rfl
      exact ⟨x, _, dx, .ref tn, .int tm, .ref t, rfl, T.cf .k, upd_same, rfl, q _ x s st⟩
    | dress t ps wd =>
      have at_ : SqT K H p [.str "dress", .ref t, .str wd] := .of ac.at_
      refine ⟨.ref p, rfl, p, _, 0, _, rfl, rfl, at_, rfl, rfl, _, rfl, ite2 (fun e => absurd e (by decide +kernel)) (fun _ => ?_)⟩
      refine ⟨.ref p, rfl, p, _, 0, _, rfl, rfl, at_, rfl, rfl, _, rfl, ite2 (fun e => absurd e (by decide +kernel)) (fun _ => ?_)⟩
      refine ⟨.ref p, rfl, p, _, 0, _, rfl, rfl, at_, rfl, rfl, _, rfl, ite2 (fun _ => ?_) (fun e => absurd (by decide +kernel) e)⟩
      refine ⟨_, rfl, _, rfl, .ref p, rfl, p, _, 1, _, rfl, rfl, at_, rfl, .ref p, rfl, p, _, 2, _, rfl, rfl, at_, rfl, fun x dx nx ndx nex => ?_⟩
      obtain ⟨s, st⟩ := made_st (A := A) (tm := tm) (ad := .dress t ps wd) (C := A.cD) nx ndx hn g ac.ok ac.fine rfl
      exact ⟨x, _, dx, .ref tn, .int tm, .ref t, .str wd, rfl, T.cf .d, upd_same, rfl, q _ x s st⟩
    | move t ps an =>
      have at_ : SqT K H p [.str "move", .ref t, .ref an.1] := .of ac.at_
      refine ⟨.ref p, rfl, p, _, 0, _, rfl, rfl, at_, rfl, rfl, _, rfl, ite2 (fun e => absurd e (by decide +kernel)) (fun _ => ?_)⟩
      refine ⟨.ref p, rfl, p, _, 0, _, rfl, rfl, at_, rfl, rfl, _, rfl, ite2 (fun e => absurd e (by decide +kernel)) (fun _ => ?_)⟩
      refine ⟨.ref p, rfl, p, _, 0, _, rfl, rfl, at_, rfl, rfl, _, rfl, ite2 (fun e => absurd e (by decide +kernel)) (fun _ => ?_)⟩
      refine ⟨_, rfl, _, rfl, .ref p, rfl, p, _, 1, _, rfl, rfl, at_, rfl, .ref p, rfl, p, _, 2, _, rfl, rfl, at_, rfl, fun x dx nx ndx nex => ?_⟩
      obtain ⟨s, st⟩ := made_st (A := A) (tm := tm) (ad := .move t ps an) (C := A.cM) nx ndx hn g ac.ok ac.fine rfl
      exact ⟨x, _, dx, .ref tn, .int tm, .ref t, .ref an.1, rfl, T.cf .m, upd_same, rfl, q _ x s st⟩

/-! ### _law_due(name, act) -/
def spDue (K : PySem.W.Frag) : Sp := fun vs H Q _ => ∃ (tn : Addr) (nm : Nm) (p : Addr) (ad : AD), vs = [.ref tn, .ref p] ∧ H tn = some (.tup [.str nm.1, .int nm.2]) ∧ ActAt H p ad ∧ RetD K H (toldD nm ad) Q
abbrev nDue : List Str := ["_law_name", "_law_act_here", "_law_many", "_law_touched", "_law_used", "_law_leans", "_law_one", "_law_k"]
theorem scDue : FnScope nDue ["_law_name", "_law_act_here"] (defScope sLDue) := ⟨rfl, rfl, rfl, by decide +kernel, rfl, by decide +kernel, by decide +kernel⟩
/-- how many slots, and what is used, ahead of the second if -/
def AD.many1 : AD → Nat
  | .put _ z => z.length
  | _ => 0
def AD.used1 : AD → List S3
  | .put an _ => [an.2]
  | .strike _ ps => ps.map (·.2)
  | .dress _ ps _ => ps.map (·.2)
  | .move _ ps _ => ps.map (·.2)
  | _ => []
/-- a list at l, new since H, of the tuples us that stood there -/
structure Row3 (H G : Hp) (l : Addr) (us : List (Addr × S3)) (ds : List S3) : Prop where
  no : H l = none
  at_ : G l = some (.lst (us.map fun u => V.ref u.1))
  each : ∀ u ∈ us, H u.1 = some (.tup (v3 u.2))
  eq : us.map (·.2) = ds
theorem Row3.same {H G G' : Hp} {l : Addr} {us : List (Addr × S3)} {ds : List S3} (r : Row3 H G l us ds) (s : Same G G') : Row3 H G' l us ds := ⟨r.no, s _ _ r.at_, r.each, r.eq⟩
end
end Rq

/-! The law's own defs: what is due. -/
namespace Rq
open PySem PySem.Spec PyProof.Rows L2
theorem row3_dp {K : PySem.W.Frag} {H G : Hp} {l : Addr} {us : List (Addr × S3)} {ds : List S3} (r : Row3 H G l us ds) (s : Same H G) : Dp K G (.ref l) (.list (ds.map d3)) := by
  have e := r.eq
  subst e
  exact .lst (.of r.at_) (dp_refs fun u hu => s _ _ (r.each u hu))
section
variable {P : Program} {w : World} {K : PySem.W.Frag} {mg : Str → Option Value} {base : Heap} {A : Ad}
theorem ok_due (T : Txt K mg A) : Kp P w K mg base 1 A.lDue (spDue K) := by
  refine kp_of T.d_lDue scDue (fun vs H Q E h => ?_) (fun fd cdv B outer s H vs Q E hr h => ?_)
  · obtain ⟨_, _, _, _, rfl, _⟩ := h
    rfl
  · obtain ⟨tn, nm, p, ad, rfl, hn, ac, q⟩ := h
    refine ⟨_, pss_cons (ps_set (i := 2) scDue.nd rfl (Or.inl rfl) pe_int) (pss_cons (ps_set (i := 3) scDue.nd rfl (Or.inl rfl) (pe_lst pa_nil)) (pss_cons (ps_set (i := 4) scDue.nd rfl (Or.inl rfl) (pe_lst pa_nil))
      (C8.pss_cut (ps_if (pt_cmpR op_eq (pe_ix ix_tup (pv 1) pe_int (fun _ _ => rfl)) pe_str (nomark _))
        (pss_cons (ps_set (i := 2) scDue.nd rfl (Or.inl rfl) (pe_callB call_len_str (by rfl) T.z_len PySem.boot_len (pa_cons (pe_ix ix_tup (pv 1) pe_int (fun _ _ => rfl)) pa_nil)))
          (pss_one (ps_set (i := 4) scDue.nd rfl (Or.inl rfl) (pe_lst (pa_cons (pe_ix ix_tup (pv 1) pe_int (fun _ _ => rfl)) pa_nil)))))
        (pss_cons (ps_set (i := 3) scDue.nd rfl (Or.inl rfl) (pe_callTy call_list_of (by rfl) T.z_list (by decide +kernel) (pa_cons (pe_ix ix_tup (pv 1) pe_int (fun _ _ => rfl)) pa_nil)))
          (pss_one (ps_set (i := 4) scDue.nd rfl (Or.inl rfl) (pe_callTy call_list_of (by rfl) T.z_list (by decide +kernel) (pa_cons (pe_ix ix_tup (pv 1) pe_int (fun _ _ => rfl)) pa_nil))))))
      (C8.pss_cut (ps_if (pt_cmpR op_eq (pe_ix ix_tup (pv 1) pe_int (fun _ _ => rfl)) pe_str (nomark _))
        (pss_cons (ps_set (i := 2) scDue.nd rfl (Or.inl rfl) (pe_callB call_len_seq (by rfl) T.z_len PySem.boot_len (pa_cons (pe_ix ix_tup (pv 1) pe_int (fun _ _ => rfl)) pa_nil)))
          (pss_one (ps_expr (pe_bm PySem.F.plainAttrs_list PySem.F.slot_list_append PySem.F.type_list_append mt_append (pv 4) (pa_cons (pe_ix ix_tup (pv 1) pe_int (fun _ _ => rfl)) pa_nil))))) pss_nil)
      (pss_cons (ps_set (i := 5) scDue.nd rfl (Or.inl rfl) (pe_callB (cr_sortN rfl hr.units) (by rfl) T.z_sorted (by decide +kernel) (pa_cons (pe_callTy (cr_setN rfl hr.units) (by rfl) T.z_set (by decide +kernel) (pa_cons
        (pe_lc (own := [("_law_one", 6)]) (g := gName 6) rfl scDue.nd (pi_list (pv 4)) (blkOk_by (own := [("_law_one", 6)]) (N := nDue) (sc := defScope sLDue) (by decide +kernel)) (fun _ _ _ _ _ => pg_name (i := 6) scDue.nd rfl (Or.inl rfl))
          (fun _ _ _ _ _ => pts_one (pt_cmpR op_ne (pe_ix (ix_tupK K) (pv 6) pe_int (fun _ _ => rfl)) pe_str (nomark _)))
          (fun _ _ _ _ _ => pe_tup (pa_cons (pe_ix (ix_tupK K) (pv 6) pe_int (fun _ _ => rfl)) (pa_cons (pe_ix (ix_tupK K) (pv 6) pe_int (fun _ _ => rfl)) pa_nil)))) pa_nil)) pa_nil)))
      (pss_one (ps_ret (pe_tup (pa_cons
        (pe_lc (own := [("_law_k", 7)]) (g := gName 7) rfl scDue.nd (pi_range1 rfl T.z_range (pa_cons (pv 2) pa_nil)) (blkOk_by (own := [("_law_k", 7)]) (N := nDue) (sc := defScope sLDue) (by decide +kernel)) (fun _ _ _ _ _ => pg_name (i := 7) scDue.nd rfl (Or.inl rfl)) (fun _ _ _ _ _ => pts_nil)
          (fun _ _ _ _ _ => pe_tup (pa_cons (pe_ix (ix_tupK K) (pv 0) pe_int (fun _ _ => rfl)) (pa_cons (pe_ix (ix_tupK K) (pv 0) pe_int (fun _ _ => rfl)) (pa_cons (pe_op op_add (pv 7) pe_int) pa_nil)))))
        (pa_cons (pv 3) (pa_cons (pv 5) pa_nil))))))))))), ?_⟩
    refine ⟨Nat.zero_le _, fun l0 n0 => ⟨Nat.zero_le _, fun l1 n1 => ?_⟩⟩
    have s0 : Same H (upd H l0 (.lst [])) := same_new n0
    have s1 := s0.trans (same_new (o := .lst []) n1)
    have no1 : H l1 = none := Same.free s0 n1
    have ne01 : l0 ≠ l1 := fun e => by
      rw [← e, upd_same] at n1
      cases n1
    have e0 : upd (upd H l0 (.lst [])) l1 (.lst []) l0 = some (.lst []) := by rw [upd_ne ne01, upd_same]
    generalize upd (upd H l0 (.lst [])) l1 (.lst []) = G1 at s1 e0 ⊢
    refine ⟨fun σ G => ∃ (lt lu : Addr) (ts us : List (Addr × S3)), σ = [some (.ref tn), some (.ref p), some (.int (ad.many1 : Int)), some (.ref lt), some (.ref lu), none, none, none] ∧ Same H G ∧ lt ≠ lu ∧ Row3 H G lt ts ad.names ∧ Row3 H G lu us ad.used1, ?_, ?_⟩
    · cases ad with
      | non => exact absurd rfl ac.ns
      | put an z =>
        have at_ : SqT K G1 p [.str "put", .ref an.1, .str z] := .of (s1 _ _ ac.at_)
        refine ⟨.ref p, rfl, p, _, 0, _, rfl, rfl, at_, rfl, rfl, _, rfl, ite2 (fun _ => ?_) (fun e => absurd (by decide +kernel) e)⟩
        refine ⟨.ref p, rfl, p, _, 2, _, rfl, rfl, at_, rfl, z, rfl, Nat.le_trans ac.ok.2 (by decide), .ref p, rfl, p, _, 1, _, rfl, rfl, at_, rfl, by show 1 ≤ sizeLine; decide, fun l2 n2 => ?_⟩
        have s2 := s1.trans (same_new (o := .lst [V.ref an.1]) n2)
        exact ⟨l0, l2, [], [an], rfl, s2, ne_of_none e0 n2, ⟨n0, same_new n2 _ _ e0, fun u hu => (nomatch hu), rfl⟩, Same.free s1 n2, upd_same, fun u hu => by rw [List.mem_singleton.mp hu]; exact ac.ok.1, rfl⟩
      | strike t ps =>
        have at_ : SqT K G1 p [.str "strike", .ref t] := .of (s1 _ _ ac.at_)
        have hnm : NmAt H t ps := ac.ok
        refine ⟨.ref p, rfl, p, _, 0, _, rfl, rfl, at_, rfl, rfl, _, rfl, ite2 (fun e => absurd e (by decide +kernel)) (fun _ => ?_)⟩
        refine ⟨.ref p, rfl, p, _, 1, _, rfl, rfl, at_, rfl, t, _, rfl, .inr (.of (s1 _ _ hnm.at_)), fun l2 n2 => ?_⟩
        have g2 := same_new (o := .lst (ps.map fun p => V.ref p.1)) n2
        refine ⟨.ref p, rfl, p, _, 1, _, rfl, rfl, Same.tup g2 at_, rfl, t, _, rfl, .inr (.of (g2 _ _ (s1 _ _ hnm.at_))), fun l3 n3 => ?_⟩
        have g3 := same_new (o := .lst (ps.map fun p => V.ref p.1)) n3
        refine ⟨l2, l3, ps, ps, rfl, (s1.trans g2).trans g3, ne_of_none upd_same n3, ⟨Same.free s1 n2, g3 _ _ upd_same, hnm.each, rfl⟩, Same.free (s1.trans g2) n3, upd_same, hnm.each, rfl⟩
      | dress t ps wd =>
        have at_ : SqT K G1 p [.str "dress", .ref t, .str wd] := .of (s1 _ _ ac.at_)
        have hnm : NmAt H t ps := ac.ok
        refine ⟨.ref p, rfl, p, _, 0, _, rfl, rfl, at_, rfl, rfl, _, rfl, ite2 (fun e => absurd e (by decide +kernel)) (fun _ => ?_)⟩
        refine ⟨.ref p, rfl, p, _, 1, _, rfl, rfl, at_, rfl, t, _, rfl, .inr (.of (s1 _ _ hnm.at_)), fun l2 n2 => ?_⟩
        have g2 := same_new (o := .lst (ps.map fun p => V.ref p.1)) n2
        refine ⟨.ref p, rfl, p, _, 1, _, rfl, rfl, Same.tup g2 at_, rfl, t, _, rfl, .inr (.of (g2 _ _ (s1 _ _ hnm.at_))), fun l3 n3 => ?_⟩
        have g3 := same_new (o := .lst (ps.map fun p => V.ref p.1)) n3
        refine ⟨l2, l3, ps, ps, rfl, (s1.trans g2).trans g3, ne_of_none upd_same n3, ⟨Same.free s1 n2, g3 _ _ upd_same, hnm.each, rfl⟩, Same.free (s1.trans g2) n3, upd_same, hnm.each, rfl⟩
      | move t ps an =>
        have at_ : SqT K G1 p [.str "move", .ref t, .ref an.1] := .of (s1 _ _ ac.at_)
        have hnm : NmAt H t ps := ac.ok.1
        refine ⟨.ref p, rfl, p, _, 0, _, rfl, rfl, at_, rfl, rfl, _, rfl, ite2 (fun e => absurd e (by decide +kernel)) (fun _ => ?_)⟩
        refine ⟨.ref p, rfl, p, _, 1, _, rfl, rfl, at_, rfl, t, _, rfl, .inr (.of (s1 _ _ hnm.at_)), fun l2 n2 => ?_⟩
        have g2 := same_new (o := .lst (ps.map fun p => V.ref p.1)) n2
        refine ⟨.ref p, rfl, p, _, 1, _, rfl, rfl, Same.tup g2 at_, rfl, t, _, rfl, .inr (.of (g2 _ _ (s1 _ _ hnm.at_))), fun l3 n3 => ?_⟩
        have g3 := same_new (o := .lst (ps.map fun p => V.ref p.1)) n3
        refine ⟨l2, l3, ps, ps, rfl, (s1.trans g2).trans g3, ne_of_none upd_same n3, ⟨Same.free s1 n2, g3 _ _ upd_same, hnm.each, rfl⟩, Same.free (s1.trans g2) n3, upd_same, hnm.each, rfl⟩
    · rintro σ G ⟨lt, lu, ts, us, rfl, sm, ne, rt, ru⟩
      refine ⟨fun σ G => ∃ (lt lu : Addr) (ts us : List (Addr × S3)), σ = [some (.ref tn), some (.ref p), some (.int (ad.many : Int)), some (.ref lt), some (.ref lu), none, none, none] ∧ Same H G ∧ Row3 H G lt ts ad.names ∧ Row3 H G lu us ad.used, ?_, ?_⟩
      · cases ad with
        | non => exact absurd rfl ac.ns
        | put an z =>
          have at_ : SqT K G p [.str "put", .ref an.1, .str z] := .of (sm _ _ ac.at_)
          refine ⟨.ref p, rfl, p, _, 0, _, rfl, rfl, at_, rfl, rfl, _, rfl, ite2 (fun e => absurd e (by decide +kernel)) (fun _ => ?_)⟩
          exact ⟨lt, lu, ts, us, rfl, sm, rt, ru⟩
        | strike t ps =>
          have at_ : SqT K G p [.str "strike", .ref t] := .of (sm _ _ ac.at_)
          refine ⟨.ref p, rfl, p, _, 0, _, rfl, rfl, at_, rfl, rfl, _, rfl, ite2 (fun e => absurd e (by decide +kernel)) (fun _ => ?_)⟩
          exact ⟨lt, lu, ts, us, rfl, sm, rt, ⟨ru.no, ru.at_, ru.each, ru.eq.trans (List.append_nil _).symm⟩⟩
        | dress t ps wd =>
          have at_ : SqT K G p [.str "dress", .ref t, .str wd] := .of (sm _ _ ac.at_)
          refine ⟨.ref p, rfl, p, _, 0, _, rfl, rfl, at_, rfl, rfl, _, rfl, ite2 (fun e => absurd e (by decide +kernel)) (fun _ => ?_)⟩
          exact ⟨lt, lu, ts, us, rfl, sm, rt, ⟨ru.no, ru.at_, ru.each, ru.eq.trans (List.append_nil _).symm⟩⟩
        | move t ps an =>
          have at_ : SqT K G p [.str "move", .ref t, .ref an.1] := .of (sm _ _ ac.at_)
          have hnm : NmAt H t ps := ac.ok.1
          refine ⟨.ref p, rfl, p, _, 0, _, rfl, rfl, at_, rfl, rfl, _, rfl, ite2 (fun _ => ?_) (fun e => absurd (by decide +kernel) e)⟩
          refine ⟨.ref p, rfl, p, _, 1, _, rfl, rfl, at_, rfl, t, _, rfl, .inr (.of (sm _ _ hnm.at_)), ?_⟩
          rw [List.length_map]
          have ul := congrArg List.length ru.eq
          have ul2 : us.length = ps.length := by
            rw [List.length_map] at ul
            rw [ul]
            show (List.map Prod.snd ps).length = ps.length
            rw [List.length_map]
          have few := hnm.few
          refine ⟨.ref lu, rfl, .inl ⟨rfl, _, .of ru.at_⟩, .ref p, rfl, p, _, 2, _, rfl, rfl, at_, rfl, lu, _, _, rfl, rfl, ru.at_, by rw [List.length_map, ul2, sizeLine_eq]; omega, ?_⟩
          refine ⟨lt, lu, ts, us ++ [an], rfl, same_put sm ru.no, ⟨rt.no, by rw [upd_ne ne]; exact rt.at_, rt.each, rt.eq⟩, ru.no, by rw [upd_same, List.map_append]; rfl, fun u hu => ?_, by rw [List.map_append, ru.eq]; rfl⟩
          rcases List.mem_append.mp hu with z | z
          · exact ru.each u z
          · rw [List.mem_singleton.mp z]
            exact ac.ok.2
      · rintro σ G ⟨lt, lu, ts, us, rfl, sm, rt, ru⟩
        have gu := ru.eq
        have tupAt : ∀ u ∈ us, SqT K G u.1 (v3 u.2) := fun u hu => .of (sm _ _ (ru.each u hu))
        have seqAt : SqL K G lu (us.map fun u => V.ref u.1) := .of ru.at_
        have manyLe : ad.many ≤ 60 := by
          have ok := ac.ok
          cases ad with
          | put an z => exact ok.2
          | move t ps an => exact Nat.le_trans (NmAt.few ok.1) (by decide)
          | _ => exact Nat.zero_le _
        have usedLe : ad.used.length ≤ 10 := by
          have ok := ac.ok
          cases ad with
          | non => exact Nat.zero_le _
          | put an z => exact (by decide : 1 ≤ 10)
          | strike t ps =>
            show ((List.map Prod.snd ps : List S3) ++ []).length ≤ 10
            rw [List.append_nil, List.length_map]
            exact Nat.le_trans (NmAt.few ok) (by decide)
          | dress t ps wd =>
            show ((List.map Prod.snd ps : List S3) ++ []).length ≤ 10
            rw [List.append_nil, List.length_map]
            exact Nat.le_trans (NmAt.few ok) (by decide)
          | move t ps an =>
            show ((List.map Prod.snd ps : List S3) ++ [an.2]).length ≤ 10
            rw [List.length_append, List.length_map]
            exact Nat.succ_le_succ (NmAt.few ok.1)
        have usLen : us.length = ad.used.length := by
          have e := congrArg List.length gu
          rwa [List.length_map] at e
        -- leans
        refine ⟨_, rfl, lu, rfl, ⟨_, seqAt⟩, fun D hD => ?_⟩
        refine lc_list (K := K) (a := lu) (xs := us.map fun u => V.ref u.1) (fun i G' => Pairs K G D (pensOf ((us.take i).map (·.2))) G') (pairs_nil hD) (fun i G' _ a => Same.seq a.sm seqAt) ?_ ?_
        · intro i y G' hy a
          rw [List.getElem?_map] at hy
          obtain ⟨u, hi, rfl⟩ := Option.map_eq_some_iff.mp hy
          have hm : u ∈ us := List.mem_of_getElem? hi
          have hT := Same.tup a.sm (tupAt u hm)
          have il : i < us.length := (List.getElem?_eq_some_iff.mp hi).1
          have step : (us.take (i + 1)).map (·.2) = (us.take i).map (·.2) ++ [u.2] := by
            rw [List.take_add_one, hi, List.map_append]
            rfl
          refine ⟨rfl, ?_⟩
          refine ⟨_, rfl, u.1, _, 0, .str u.2.1, rfl, rfl, hT, rfl, rfl, _, rfl, ?_⟩
          rw [step, pens_snoc]
          by_cases c : V.str u.2.1 = V.str ""
          · rw [decide_eq_true c, if_pos rfl]
            show if (!true) = true then _ else _
            rw [if_neg (by decide)]
            exact a
          · rw [decide_eq_false c, if_neg Bool.false_ne_true]
            show if (!false) = true then _ else _
            rw [if_pos (by decide)]
            refine ⟨_, rfl, u.1, _, 0, .str u.2.1, rfl, rfl, hT, rfl, _, rfl, u.1, _, 1, .int u.2.2.1, rfl, rfl, hT, rfl, by show 2 ≤ sizeLine; decide, fun b hb => ?_⟩
            obtain ⟨acc, k1, k2, k3⟩ := a.more (p := b) (x := nmOf u.2) hb
            refine ⟨acc, k1, ?_, k3⟩
            have z := pensOf_len ((us.take i).map (·.2))
            rw [List.length_map, List.length_take] at z
            rw [k2, sizeLine_eq]
            omega
        · intro G' a
          rw [List.length_map, List.take_length, gu] at a
          obtain ⟨ps, k1, k2, k3⟩ := a.ex
          have z := pensOf_len ad.used
          have zl := congrArg List.length k3
          rw [List.length_map] at zl
          refine ⟨D, ps, rfl, .of k1, fun b hb => .of (k2 b hb), by omega, fun a1 L h1 h2 h3 h4 => ?_⟩
          refine ⟨a1, L, rfl, upd_same, fun m hm => .of (same_new h1 _ _ (k2 m (h2 m hm))), fun M b pm _ srt hb => ?_⟩
          obtain ⟨g, dl⟩ := canon_tells (K := K) k3 k2 h1 hb h2 h3 h4 pm srt
          have g2 := a.sm.trans g
          have sm2 := sm.trans g2
          have ell : upd (upd G' a1 (SetNO P w a1 L)) b (.lst (M.map fun m => V.ref m.1)) b = some (.lst (M.map fun m => V.ref m.1)) := upd_same
          show gName _ _ _ (upd (upd G' a1 (SetNO P w a1 L)) b (.lst (M.map fun m => V.ref m.1))) _
          change DpAll K (upd (upd G' a1 (SetNO P w a1 L)) b (.lst (M.map fun m => V.ref m.1))) _ _ at dl
          change Same G (upd (upd G' a1 (SetNO P w a1 L)) b (.lst (M.map fun m => V.ref m.1))) at g2
          change Same H (upd (upd G' a1 (SetNO P w a1 L)) b (.lst (M.map fun m => V.ref m.1))) at sm2
          generalize upd (upd G' a1 (SetNO P w a1 L)) b (.lst (M.map fun m => V.ref m.1)) = G2 at g2 sm2 ell dl ⊢
          -- slots
          refine ⟨_, rfl, (ad.many : Int), rfl, by omega, by omega, fun D2 hD2 => ?_⟩
          refine lc_range (lo := 0) (n := ((ad.many : Nat) : Int).toNat) (fun i G3 => Acc K G2 D2 (slotsD nm i) G3) (acc_nil hD2) ?_ ?_
          · intro i G3 hi a3
            have hnm : SqT K G3 tn [.str nm.1, .int nm.2] := .of (a3.sm _ _ (sm2 _ _ hn))
            refine ⟨rfl, ?_⟩
            refine yes_if ?_
            refine ⟨_, rfl, tn, _, 0, .str nm.1, rfl, rfl, hnm, rfl, _, rfl, tn, _, 1, .int nm.2, rfl, rfl, hnm, rfl, _, rfl, _, _, rfl, rfl, by show 3 ≤ sizeLine; decide, fun c hc => ?_⟩
            have a4 := a3.grow (same_new (o := .tup [.str nm.1, .int nm.2, .int (0 + (i : Int) + 1)]) hc)
            have bD : c ≠ D2 := fun e => by
              obtain ⟨xs, e2, _⟩ := a3.ex
              rw [← e, hc] at e2
              cases e2
            obtain ⟨xs2, e1, e2, a5⟩ := a4.more (y := .ref c) (d := d3 (nm.1, nm.2, ((i : Nat) : Int) + 1)) (by
              have z : hide D2 (upd G3 c (.tup [.str nm.1, .int nm.2, .int (0 + (i : Int) + 1)])) c = some (.tup (v3 (nm.1, nm.2, ((i : Nat) : Int) + 1))) := by
                rw [hide_ne bD, upd_same, Int.zero_add]
              exact dp3 z)
            refine ⟨xs2, e1, ?_, ?_⟩
            · rw [e2, slotsD_len, sizeLine_eq]
              omega
            · rw [slotsD_succ]
              exact a5
          · intro G3 a3
            have e : ((ad.many : Nat) : Int).toNat = ad.many := by omega
            rw [e] at a3
            obtain ⟨xs3, e3, d3'⟩ := a3.all
            refine ⟨_, rfl, _, rfl, by show 3 ≤ sizeLine; decide, fun c hc => ?_⟩
            have g4 := same_new (o := .tup [.ref D2, .ref lt, .ref b]) hc
            have g3 : Same G2 G3 := a3.sm
            have sm3 := sm2.trans g3
            refine q _ _ (sm3.trans g4) (.tup (.of upd_same) (.cons (dp_same g4 _ _ (.lst (.of e3) d3')) (.cons (dp_same (g2.trans (g3.trans g4)) _ _ (row3_dp rt sm)) (.cons (dp_same (g3.trans g4) _ _ (.lst (.of ell) dl)) .nil))))
end
end Rq

/-! The law's own defs: what a stroke tells, its kinds. -/
namespace Rq
open PySem PySem.Spec PyProof.Rows L2
theorem once_len : ∀ l : List Nm, (once l).length ≤ l.length
  | [] => Nat.le_refl _
  | x :: r => by
    unfold once
    split
    · exact Nat.le_succ_of_le (once_len r)
    · exact Nat.succ_le_succ (once_len r)
theorem leansD_len (l : List S3) : (leansD l).length ≤ l.length := by
  unfold leansD canon
  rw [List.length_map, List.length_mergeSort]
  exact Nat.le_trans (once_len _) (pensOf_len l)
theorem many_le {A : Ad} {H : Hp} {x tn : Addr} {nm : Nm} {tm : Int} {ad : AD} (st : StAt A H x tn nm tm ad) : ad.many ≤ 60 := by
  have ok := st.ok
  cases ad with
  | put an z => exact ok.2
  | move t ps an => exact Nat.le_trans (NmAt.few ok.1) (by decide)
  | _ => exact Nat.zero_le _
section
variable {P : Program} {w : World} {K : PySem.W.Frag} {mg : Str → Option Value} {base : Heap} {A : Ad}
/-! ### _law_told(stroke) -/
/-- a new list of no more than seventy -/
def Fresh (H G : Hp) (l : Addr) : Prop := H l = none ∧ ∃ xs, G l = some (.lst xs) ∧ xs.length ≤ 70
def spTold (A : Ad) (K : PySem.W.Frag) : Sp := fun vs H Q _ => ∃ (x tn : Addr) (nm : Nm) (tm : Int) (ad : AD), vs = [.ref x] ∧ StAt A H x tn nm tm ad ∧
  ∀ (G : Hp) (t l1 l2 l3 : Addr), Same H G → G t = some (.tup [.ref l1, .ref l2, .ref l3]) → Fresh H G l1 → Fresh H G l2 → Fresh H G l3 → Dp K G (.ref t) (toldD nm ad) → Q (.ref t) G
theorem scTold : FnScope ["_law_stroke"] ["_law_stroke"] (defScope sLTold) := ⟨rfl, rfl, rfl, by decide +kernel, rfl, by decide +kernel, by decide +kernel⟩
theorem ok_le (T : Txt K mg A) : ∀ kd, Kp P w K mg base 2 (A.f_leans kd) (spLea A K)
  | .s => ok_lea T
  | .p => ok_lea T
  | .k => ok_lea T
  | .d => ok_lea T
  | .m => ok_lea T
theorem ok_told (T : Txt K mg A) : Kp P w K mg base 3 A.lTold (spTold A K) := by
  refine kp_of T.d_lTold scTold (fun vs H Q E h => ?_) (fun fd cdv B outer s H vs Q E hr h => ?_)
  · obtain ⟨_, _, _, _, _, rfl, _⟩ := h
    rfl
  · obtain ⟨x, tn, nm, tm, ad, rfl, st, q⟩ := h
    refine ⟨_, pss_one (ps_ret (pe_tup (pa_cons
        (pe_disp (A := A) (f := A.f_slots) (sp := spL A K dSl) (ok_sl T) T.cf T.m_slots hr (by decide) (by decide +kernel) (pv 0)) (pa_cons
        (pe_disp (A := A) (f := A.f_touched) (sp := spL A K dTo) (ok_to T) T.cf T.m_touched hr (by decide) (by decide +kernel) (pv 0)) (pa_cons
        (pe_disp (A := A) (f := A.f_leans) (sp := fun _ => spLea A K) (ok_le T) T.cf T.m_leans hr (by decide) (by decide +kernel) (pv 0)) pa_nil))))), ?_⟩
    refine ⟨x, tn, nm, tm, ad, rfl, st, x, tn, nm, tm, ad, rfl, rfl, st, fun H1 l1 xs1 s1 n1 e1 d1 => ?_⟩
    have st1 := st.same s1
    refine ⟨x, tn, nm, tm, ad, rfl, st1, x, tn, nm, tm, ad, rfl, rfl, st1, fun H2 l2 xs2 s2 n2 e2 d2 => ?_⟩
    have st2 := st1.same s2
    refine ⟨x, tn, nm, tm, ad, rfl, st2, x, tn, nm, tm, ad, rfl, st2, fun H3 l3 xs3 s3 n3 e3 d3' => ?_⟩
    refine ⟨by show 3 ≤ sizeLine; decide, fun t ht => ?_⟩
    have g := same_new (o := .tup [.ref l1, .ref l2, .ref l3]) ht
    obtain ⟨b1, b2⟩ := names_len st
    have b3 := many_le st
    have c1 := dpAll_len d1
    have c2 := dpAll_len d2
    have c3 := dpAll_len d3'
    rw [slotsD_len] at c1
    rw [List.length_map] at c2
    have c4 := leansD_len ad.used
    have c5 : ad.used.length = ad.names.length + ad.anchors.length := List.length_append
    have s12 := s2.trans s3
    refine q _ t l1 l2 l3 ((s1.trans s12).trans g) upd_same ⟨n1, xs1, g _ _ (s12 _ _ e1), by omega⟩ ⟨Same.free s1 n2, xs2, g _ _ (s3 _ _ e2), by omega⟩ ⟨Same.free (s1.trans s2) n3, xs3, g _ _ e3, by omega⟩ ?_
    exact .tup (.of upd_same) (.cons (dp_same (s12.trans g) _ _ (.lst (.of e1) d1)) (.cons (dp_same (s3.trans g) _ _ (.lst (.of e2) d2)) (.cons (dp_same g _ _ (.lst (.of e3) d3')) .nil)))
/-! ### _law_kinds(stroke, word) -/
def AD.word : AD → Str
  | .non => ""
  | .put _ _ => "put"
  | .strike _ _ => "strike"
  | .dress _ _ _ => "dress"
  | .move _ _ _ => "move"
def spKinds (A : Ad) : Sp := fun vs H Q _ => ∃ (x tn : Addr) (nm : Nm) (tm : Int) (ad : AD), vs = [.ref x, .str ad.word] ∧ ad.kd ≠ .s ∧ StAt A H x tn nm tm ad ∧ ∀ G : Hp, Same H G → Q (.bl true) G
abbrev nKinds : List Str := ["_law_stroke", "_law_word", "_law_kinds_here", "_law_one"]
theorem scKinds : FnScope nKinds ["_law_stroke", "_law_word"] (defScope sLKinds) := ⟨rfl, rfl, rfl, by decide +kernel, rfl, by decide +kernel, by decide +kernel⟩
/-- isinstance of a stroke and a class -/
theorem Txt.kit (T : Txt K mg A) (a b : Kd) (ha : a ≠ .s) : PySem.W.kitOne K (.ref (A.cls a)) (.ref (A.cls b)) = some (decide (a = b ∨ b = .s)) := by
  by_cases e : a = b
  · subst e
    unfold PySem.W.kitOne
    rw [if_pos (beq_self_eq_true _), decide_eq_true (.inl rfl)]
  · have ne := T.ne a b e
    have h : ¬ (Value.ref (A.cls a) == Value.ref (A.cls b)) = true := fun z => ne (by
      have y := eq_of_beq z
      injection y)
    unfold PySem.W.kitOne PySem.W.kitCls
    rw [if_neg h]
    have ic : (PySem.W.clsIn K (A.cls b)).isSome = true := (T.cf b).ic
    have ty := (T.cf b).ty
    dsimp only
    rw [if_pos (by rw [ic, ty]; rfl), T.sub a b e ha]
    simp [e]
theorem ty_st (T : Txt K mg A) {H : Hp} {x tn : Addr} {nm : Nm} {tm : Int} {ad : AD} (st : StAt A H x tn nm tm ad) : TyX K H (.ref x) (.ref (A.cls ad.kd)) := by
  obtain ⟨dx, hx⟩ := st.at_
  have cf := T.cf ad.kd
  exact .base (.ins hx cf.cl cf.ca T.cg T.ct cf.ob)
def four : List Str := ["put", "strike", "dress", "move"]
theorem four_same (ad : AD) (h : ad.kd ≠ .s) : [PyData.bool (decide (ad.kd = .p ∨ Kd.p = .s)), .bool (decide (ad.kd = .k ∨ Kd.k = .s)), .bool (decide (ad.kd = .d ∨ Kd.d = .s)), .bool (decide (ad.kd = .m ∨ Kd.m = .s))] = four.map fun o => PyData.bool (decide (V.str ad.word = V.str o)) := by
  have e1 : V.str "put" ≠ V.str "strike" := by decide +kernel
  have e2 : V.str "put" ≠ V.str "dress" := by decide +kernel
  have e3 : V.str "put" ≠ V.str "move" := by decide +kernel
  have e4 : V.str "strike" ≠ V.str "dress" := by decide +kernel
  have e5 : V.str "strike" ≠ V.str "move" := by decide +kernel
  have e6 : V.str "dress" ≠ V.str "move" := by decide +kernel
  unfold four
  cases ad with
  | non => exact absurd rfl h
  | put an z => simp only [List.map, AD.kd, AD.word, decide_eq_true (rfl : V.str "put" = V.str "put"), decide_eq_false e1, decide_eq_false e2, decide_eq_false e3] <;> rfl
  | strike t ps => simp only [List.map, AD.kd, AD.word, decide_eq_true (rfl : V.str "strike" = V.str "strike"), decide_eq_false e1.symm, decide_eq_false e4, decide_eq_false e5] <;> rfl
  | dress t ps wd => simp only [List.map, AD.kd, AD.word, decide_eq_true (rfl : V.str "dress" = V.str "dress"), decide_eq_false e2.symm, decide_eq_false e4.symm, decide_eq_false e6] <;> rfl
  | move t ps an => simp only [List.map, AD.kd, AD.word, decide_eq_true (rfl : V.str "move" = V.str "move"), decide_eq_false e3.symm, decide_eq_false e5.symm, decide_eq_false e6.symm] <;> rfl
theorem ok_kinds (T : Txt K mg A) : Kp P w K mg base 1 A.lKinds (spKinds A) := by
  refine kp_of T.d_lKinds scKinds (fun vs H Q E h => ?_) (fun fd cdv B outer s H vs Q E hr h => ?_)
  · obtain ⟨_, _, _, _, _, rfl, _⟩ := h
    rfl
  · obtain ⟨x, tn, nm, tm, ad, rfl, ns, st, q⟩ := h
    have hty := ty_st T st
    refine ⟨_, pss_cons (ps_set (i := 2) scKinds.nd rfl (Or.inl rfl) (pe_lst
        (pa_cons (pe_callB call_isi (by rfl) T.z_isinstance (by decide +kernel) (pa_cons (pv 0) (pa_cons (pe_glob (v := .ref A.cP) rfl T.g_cP rfl) pa_nil)))
        (pa_cons (pe_callB call_isi (by rfl) T.z_isinstance (by decide +kernel) (pa_cons (pv 0) (pa_cons (pe_glob (v := .ref A.cK) rfl T.g_cK rfl) pa_nil)))
        (pa_cons (pe_callB call_isi (by rfl) T.z_isinstance (by decide +kernel) (pa_cons (pv 0) (pa_cons (pe_glob (v := .ref A.cD) rfl T.g_cD rfl) pa_nil)))
        (pa_cons (pe_callB call_isi (by rfl) T.z_isinstance (by decide +kernel) (pa_cons (pv 0) (pa_cons (pe_glob (v := .ref A.cM) rfl T.g_cM rfl) pa_nil))) pa_nil))))))
      (pss_one (ps_ret (pe_and (pe_callB call_isi (by rfl) T.z_isinstance (by decide +kernel) (pa_cons (pv 0) (pa_cons (pe_glob (v := .ref A.cS) rfl T.g_cS rfl) pa_nil)))
        (pe_one (pe_cmpR (op_eqD hr.units) (pv 2)
          (pe_lc (own := [("_law_one", 3)]) (g := gName 3) rfl scKinds.nd (pi_list (pe_lst (pa_cons pe_str (pa_cons pe_str (pa_cons pe_str (pa_cons pe_str pa_nil)))))) (blkOk_by (own := [("_law_one", 3)]) (N := nKinds) (sc := defScope sLKinds) (by decide +kernel))
            (fun _ _ _ _ _ => pg_name (i := 3) scKinds.nd rfl (Or.inl rfl)) (fun _ _ _ _ _ => pts_nil) (fun _ _ _ _ _ => pe_cmpR op_eq (pv 1) (pv 3) (nomark _))) (nomark _)))))), ?_⟩
    refine ⟨_, rfl, .ref x, .ref A.cP, _, _, _, rfl, .own _, hty, T.kit ad.kd .p ns, _, rfl, .ref x, .ref A.cK, _, _, _, rfl, .own _, hty, T.kit ad.kd .k ns, _, rfl, .ref x, .ref A.cD, _, _, _, rfl, .own _, hty, T.kit ad.kd .d ns, _, rfl, .ref x, .ref A.cM, _, _, _, rfl, .own _, hty, T.kit ad.kd .m ns, by show 4 ≤ sizeLine; decide, fun l hl => ?_⟩
    have s1 := same_new (o := .lst [V.bl (decide (ad.kd = .p ∨ Kd.p = .s)), V.bl (decide (ad.kd = .k ∨ Kd.k = .s)), V.bl (decide (ad.kd = .d ∨ Kd.d = .s)), V.bl (decide (ad.kd = .m ∨ Kd.m = .s))]) hl
    have hty1 := ty_st T (st.same s1)
    have el : upd H l (.lst [V.bl (decide (ad.kd = .p ∨ Kd.p = .s)), V.bl (decide (ad.kd = .k ∨ Kd.k = .s)), V.bl (decide (ad.kd = .d ∨ Kd.d = .s)), V.bl (decide (ad.kd = .m ∨ Kd.m = .s))]) l = some (.lst [V.bl (decide (ad.kd = .p ∨ Kd.p = .s)), V.bl (decide (ad.kd = .k ∨ Kd.k = .s)), V.bl (decide (ad.kd = .d ∨ Kd.d = .s)), V.bl (decide (ad.kd = .m ∨ Kd.m = .s))]) := upd_same
    generalize upd H l (.lst [V.bl (decide (ad.kd = .p ∨ Kd.p = .s)), V.bl (decide (ad.kd = .k ∨ Kd.k = .s)), V.bl (decide (ad.kd = .d ∨ Kd.d = .s)), V.bl (decide (ad.kd = .m ∨ Kd.m = .s))]) = H1 at s1 hty1 el ⊢
    refine ⟨_, rfl, .ref x, .ref A.cS, _, _, _, rfl, .own _, hty1, T.kit ad.kd .s ns, _, rfl, ?_⟩
    rw [if_pos (decide_eq_true (.inr rfl))]
    refine ⟨_, rfl, by show 4 ≤ sizeLine; decide, fun l2 hl2 => ?_⟩
    have s2 := same_new (o := .lst [V.str "put", V.str "strike", V.str "dress", V.str "move"]) hl2
    have seqAt : SqL K (upd H1 l2 (.lst [V.str "put", V.str "strike", V.str "dress", V.str "move"])) l2 (four.map V.str) := .of upd_same
    generalize upd H1 l2 (.lst [V.str "put", V.str "strike", V.str "dress", V.str "move"]) = H2 at s2 seqAt ⊢
    refine ⟨l2, rfl, ⟨_, seqAt⟩, fun D hD => ?_⟩
    refine lc_list (K := K) (a := l2) (xs := four.map V.str) (fun i G => Same H2 G ∧ G D = some (.lst ((four.take i).map fun o => V.bl (decide (V.str ad.word = V.str o))))) ⟨same_new hD, upd_same⟩ (fun i G _ a => Same.seq a.1 seqAt) ?_ ?_
    · rintro i y G hy ⟨sm, e⟩
      rw [List.getElem?_map] at hy
      obtain ⟨o, ho, rfl⟩ := Option.map_eq_some_iff.mp hy
      have il : i < four.length := (List.getElem?_eq_some_iff.mp ho).1
      have l4 : four.length = 4 := rfl
      refine ⟨rfl, ?_⟩
      refine yes_if ?_
      refine ⟨_, rfl, _, rfl, rfl, _, e, by rw [List.length_map, List.length_take, sizeLine_eq]; omega, same_put sm hD, ?_⟩
      rw [upd_same, List.take_add_one, ho, List.map_append]
      rfl
    · rintro G ⟨sm, e⟩
      have e' : G D = some (.lst (four.map fun o => V.bl (decide (V.str ad.word = V.str o)))) := e
      refine ⟨.list [PyData.bool (decide (ad.kd = .p ∨ Kd.p = .s)), .bool (decide (ad.kd = .k ∨ Kd.k = .s)), .bool (decide (ad.kd = .d ∨ Kd.d = .s)), .bool (decide (ad.kd = .m ∨ Kd.m = .s))], .list (four.map fun o => PyData.bool (decide (V.str ad.word = V.str o))),
        .lst (.of (sm _ _ (s2 _ _ el))) (.cons (.bl _) (.cons (.bl _) (.cons (.bl _) (.cons (.bl _) .nil)))), .lst (.of e') (dpAll_map fun o _ => .bl _), ?_, ?_, ?_⟩
      · exact (lay_list (n := 0) (layAll_cons (lay_bool _ _) (layAll_cons (lay_bool _ _) (layAll_cons (lay_bool _ _) (layAll_cons (lay_bool _ _) (layAll_nil _)))))).shaped (by decide)
      · exact (lay_list (n := 0) (layAll_map fun o _ => lay_bool _ _)).shaped (by decide)
      · rw [four_same ad ns, SeqAt.eqv_refl _ (lay_list (n := 0) (layAll_map fun o _ => lay_bool _ _)).c]
        exact q G ((s1.trans s2).trans sm)
end
end Rq

/-! The law. -/
namespace Rq
open PySem PySem.Spec PyProof.Rows L2
/-! ### what is compared may be compared -/
theorem fine_used {ad : AD} (h : ad.Fine) : ∀ x ∈ ad.used, StrOk x.1 := by
  intro x hx
  have go : ∀ {ps : List (Addr × S3)}, (∀ p ∈ ps, StrOk p.2.1) → x ∈ List.map Prod.snd ps → StrOk x.1 := fun hp hm => by
    obtain ⟨p, h1, h2⟩ := List.mem_map.mp hm
    rw [← h2]
    exact hp p h1
  cases ad with
  | non => cases hx
  | put an z =>
    have e : x = an.2 := List.mem_singleton.mp hx
    rw [e]
    exact h.1
  | strike t ps =>
    rcases List.mem_append.mp hx with z | z
    · exact go h z
    · cases z
  | dress t ps wd =>
    rcases List.mem_append.mp hx with z | z
    · exact go h.1 z
    · cases z
  | move t ps an =>
    rcases List.mem_append.mp hx with z | z
    · exact go h.1 z
    · have e : x = an.2 := List.mem_singleton.mp z
      rw [e]
      exact h.2
theorem lay_leans {l : List S3} (h : ∀ x ∈ l, StrOk x.1) : LayAll 1 (leansD l) := by
  refine layAll_map fun x hx => lay_encN 0 ?_
  have m1 : x ∈ once (pensOf l) := List.mem_mergeSort.mp hx
  have m2 : x ∈ pensOf l := mem_once.mp m1
  obtain ⟨y, hy, e⟩ := List.mem_map.mp m2
  rw [← e]
  exact h y (List.mem_filter.mp hy).1
theorem lay_told {nm : Nm} {ad : AD} (g : StrOk nm.1) (h : ad.Fine) : Lay 3 (toldD nm ad) :=
  lay_tup (layAll_cons (lay_list (layAll_map fun k _ => lay_d3 0 g)) (layAll_cons (lay_list (layAll_map fun x hx => lay_d3 0 (fine_used h x (List.mem_append_left _ hx)))) (layAll_cons (lay_list (lay_leans (fine_used h))) (layAll_nil 2))))
theorem lay_names {ps : List (Addr × S3)} (h : ∀ p ∈ ps, StrOk p.2.1) : LayAll 1 ((ps.map (·.2)).map d3) := layAll_map fun x hx => by
  obtain ⟨p, h1, h2⟩ := List.mem_map.mp hx
  rw [← h2]
  exact lay_d3 0 (h p h1)
theorem lay_dat {ad : AD} (h : ad.Fine) : Lay 3 ad.dat := by
  cases ad with
  | non => exact lay_tup (layAll_nil 2)
  | put an z => exact lay_tup (layAll_cons (lay_str 2 (by decide +kernel)) (layAll_cons ((lay_d3 0 h.1).mono (by decide)) (layAll_cons (lay_str 2 h.2) (layAll_nil 2))))
  | strike t ps => exact lay_tup (layAll_cons (lay_str 2 (by decide +kernel)) (layAll_cons (lay_tup (lay_names h)) (layAll_nil 2)))
  | dress t ps wd => exact lay_tup (layAll_cons (lay_str 2 (by decide +kernel)) (layAll_cons (lay_tup (lay_names h.1)) (layAll_cons (lay_str 2 h.2) (layAll_nil 2))))
  | move t ps an => exact lay_tup (layAll_cons (lay_str 2 (by decide +kernel)) (layAll_cons (lay_tup (lay_names h.1)) (layAll_cons ((lay_d3 0 h.2).mono (by decide)) (layAll_nil 2))))
theorem lay_row {nm : Nm} {tm : Int} {ad : AD} (g : StrOk nm.1) (h : ad.Fine) : Lay 4 (rowD nm tm ad) :=
  lay_tup (layAll_cons ((lay_encN 0 g).mono (by decide)) (layAll_cons (lay_int 3 _) (layAll_cons (lay_dat h) (layAll_nil 3))))
theorem cutV_mem {xs : List V} {lo hi : Option Int} {x : V} (h : x ∈ cutV xs lo hi) : x ∈ xs := List.mem_of_mem_drop (List.mem_of_mem_take h)
theorem word_at (ad : AD) (ns : ad.kd ≠ .s) : atI ad.vs 0 = some (.str ad.word) := by
  cases ad with
  | non => exact absurd rfl ns
  | _ => rfl

section
variable {P : Program} {w : World} {K : PySem.W.Frag} {mg : Str → Option Value} {base : Heap} {A : Ad}
def spLaw (K : PySem.W.Frag) : Sp := fun vs H Q _ => ∃ (a : Addr) (ns : List Int), vs = [.ref a] ∧ SqL K H a (ns.map V.int) ∧ ns.length ≤ 63 ∧ ∀ H', Q (.bl true) H'
theorem scLaw : FnScope ["_law_script", "_law_cell", "_law_xs", "_law_name", "_law_time", "_law_act_here", "_law_stroke", "_law_due_here", "_law_rows"] ["_law_script"] (defScope sLaw) := ⟨rfl, rfl, rfl, by decide +kernel, rfl, by decide +kernel, by decide +kernel⟩
theorem ok_law {f : Addr} {fd : FuncData} (T : Txt K mg A) (F : Fun K "law" "law" sLaw f fd) : FnOk P w K mg base CX0 6 f fd ["_law_script"] (spLaw K) := by
  refine F.ok scLaw (fun vs H Q E h => ?_) (fun cdv B outer s H vs Q E hr h => ?_)
  · obtain ⟨_, _, rfl, _⟩ := h
    rfl
  · obtain ⟨a, ns, rfl, hS, hlen, q⟩ := h
    refine ⟨_, pss_cons (ps_for PassesOwn.never rfl (pi_list (pe_op op_cat (pe_lst (pa_cons (pe_f (ok_cell T) T.g_lCell hr (by decide) (pa_cons (pv 0) (pa_cons pe_int pa_nil))) pa_nil)) (pe_slice sl_list (pv 0) (po_some pe_int) (po_some pe_int)))) (pg_name (i := 1) scLaw.nd rfl (Or.inl rfl))
      (pss_cons (ps_set (i := 2) scLaw.nd rfl (Or.inl rfl) (pe_f (ok_str T) T.g_lStr hr (by decide) (pa_cons (pv 1) (pa_cons pe_int pa_nil))))
      (pss_cons (ps_set (i := 3) scLaw.nd rfl (Or.inl rfl) (pe_tup (pa_cons (pe_f (ok_pen T) T.g_lPen hr (by decide) (pa_cons (pe_ix ix_list (pv 2) pe_int (fun _ _ => rfl)) pa_nil)) (pa_cons (pe_op op_add pe_int (pe_op op_mod (pv 1) (pe_op op_pow pe_int pe_int))) pa_nil))))
      (pss_cons (ps_set (i := 4) scLaw.nd rfl (Or.inl rfl) (pe_op op_add pe_int (pe_op op_mod (pe_op op_add (pe_op op_fdiv (pv 1) pe_int) (pe_ix ix_list (pv 2) pe_int (fun _ _ => rfl))) (pe_op op_pow pe_int pe_int))))
      (pss_cons (ps_set (i := 5) scLaw.nd rfl (Or.inl rfl) (pe_f (ok_act T) T.g_lAct hr (by decide) (pa_cons (pv 2) pa_nil)))
      (pss_cons (ps_set (i := 6) scLaw.nd rfl (Or.inl rfl) (pe_f (ok_made T) T.g_lMade hr (by decide) (pa_cons (pv 3) (pa_cons (pv 4) (pa_cons (pv 5) pa_nil)))))
      (pss_cons (ps_set (i := 7) scLaw.nd rfl (Or.inl rfl) (pe_f (ok_due T) T.g_lDue hr (by decide) (pa_cons (pv 3) (pa_cons (pv 5) pa_nil))))
      (pss_cons (ps_if (PW.pt (pw_or (pt_cmpR (op_neD hr.units) (pe_f (ok_told T) T.g_lTold hr (by decide) (pa_cons (pv 6) pa_nil)) (pv 7) (nomark _))
          (pw_or (pt_cmpR (op_neD hr.units) (pe_disp (A := A) (f := fun _ => A.row) (sp := fun _ => spRow A K) (fun _ => ok_row T) T.cf (fun k => by have m := T.m_row k; cases k <;> exact m) hr (by decide) (by decide +kernel) (pv 6)) (pe_tup (pa_cons (pv 3) (pa_cons (pv 4) (pa_cons (pv 5) pa_nil)))) (nomark _))
          (pw_or1 (pt_not (pt_val (pe_f (ok_kinds T) T.g_lKinds hr (by decide) (pa_cons (pv 6) (pa_cons (pe_ix ix_tup (pv 5) pe_int (fun _ _ => rfl)) pa_nil)))))))))
        (pss_one (ps_ret pe_bl)) pss_nil)
      (pss_cons (ps_for PassesOwn.never rfl (pi_tup (pe_f (ok_told T) T.g_lTold hr (by decide) (pa_cons (pv 6) pa_nil))) (pg_name (i := 8) scLaw.nd rfl (Or.inl rfl))
        (pss_cons (ps_if (pt_not (pt_val (pe_callB call_isi (by rfl) T.z_isinstance (by decide +kernel) (pa_cons (pv 8) (pa_cons (pe_bltn (v := .ty "list") (u := .type "list") rfl T.z_list (by decide +kernel) rfl) pa_nil))))) (pss_one (ps_ret pe_bl)) pss_nil)
          (pss_one (ps_expr (pe_bm PySem.F.plainAttrs_list PySem.F.slot_list_append PySem.F.type_list_append mt_append (pv 8) (pa_cons pe_int pa_nil))))))
      (pss_one (ps_if (PW.pt (pw_or (pt_cmpR (op_neD hr.units) (pe_f (ok_told T) T.g_lTold hr (by decide) (pa_cons (pv 6) pa_nil)) (pv 7) (nomark _))
          (pw_or1 (pt_cmpR (op_neD hr.units) (pe_f (ok_told T) T.g_lTold hr (by decide) (pa_cons (pe_new (ok_iS T) (T.mkOf .s) T.g_cS hr (by decide) (pa_cons (pv 3) (pa_cons (pv 4) pa_nil))) pa_nil)) (pe_tup (pa_cons (pe_lst pa_nil) (pa_cons (pe_lst pa_nil) (pa_cons (pe_lst pa_nil) pa_nil)))) (nomark _)))))
        (pss_one (ps_ret pe_bl)) pss_nil)))))))))))
      (pss_one (ps_ret pe_bl)), ?_⟩
    -- the cells
    refine ⟨_, rfl, a, ns, rfl, hS, fun c0 => ⟨by show 1 ≤ sizeLine; decide, fun l1 n1 => ?_⟩⟩
    have s1 := same_new (o := .lst [V.int c0]) n1
    refine ⟨.ref a, rfl, 1, rfl, 25, rfl, a, _, rfl, s1.seq hS, fun l2 n2 => ?_⟩
    have s2 := s1.trans (same_new (o := .lst (cutV (ns.map V.int) (some 1) (some 25))) n2)
    have hl1 := same_new (o := .lst (cutV (ns.map V.int) (some 1) (some 25))) n2 _ _ (upd_same (H := H) (a := l1) (o := .lst [V.int c0]))
    have cl := cutV_length (ns.map V.int) (some 1) (some 25)
    rw [List.length_map] at cl
    refine ⟨l1, l2, _, _, rfl, rfl, hl1, upd_same, by rw [sizeLine_eq]; show 1 + _ ≤ _; omega, fun l3 n3 => ?_⟩
    have s3 := s2.trans (same_new (o := .lst ([V.int c0] ++ cutV (ns.map V.int) (some 1) (some 25))) n3)
    have allI : ∀ y ∈ [V.int c0] ++ cutV (ns.map V.int) (some 1) (some 25), ∃ c, y = V.int c := fun y hy => by
      rcases List.mem_append.mp hy with z | z
      · exact ⟨c0, List.mem_singleton.mp z⟩
      · obtain ⟨n, _, e⟩ := List.mem_map.mp (cutV_mem z)
        exact ⟨n, e.symm⟩
    generalize [V.int c0] ++ cutV (ns.map V.int) (some 1) (some 25) = cells at s3 allI ⊢
    have seqAt : SqL K (upd (upd (upd H l1 (.lst [V.int c0])) l2 (.lst (cutV (ns.map V.int) (some 1) (some 25)))) l3 (.lst cells)) l3 cells := .of upd_same
    generalize upd (upd (upd H l1 (.lst [V.int c0])) l2 (.lst (cutV (ns.map V.int) (some 1) (some 25)))) l3 (.lst cells) = H1 at s3 seqAt ⊢
    refine ⟨l3, rfl, ⟨_, seqAt⟩, for_list (K := K) (a := l3) (xs := cells) (fun i σ G => ∃ y1 y2 y3 y4 y5 y6 y7 y8 : Option V, σ = [some (.ref a), y1, y2, y3, y4, y5, y6, y7, y8] ∧ Same H1 G)
      ⟨none, none, none, none, none, none, none, none, rfl, Same.refl _⟩ (fun i σ G _ ⟨_, _, _, _, _, _, _, _, _, sm⟩ => Same.seq sm seqAt) ?_ ?_⟩
    · rintro i y σ G hi ⟨y1, y2, y3, y4, y5, y6, y7, y8, rfl, sm⟩
      obtain ⟨c, rfl⟩ := allI y (List.mem_of_getElem? hi)
      -- xs
      refine ⟨_, rfl, c, rfl, fun G1 lx xs g1 _ ex lenx => ?_⟩
      obtain ⟨x14, e14⟩ := int_at (ns := xs) (z := 14) (by decide) (by omega)
      obtain ⟨x15, e15⟩ := int_at (ns := xs) (z := 15) (by decide) (by omega)
      -- name
      refine ⟨_, rfl, lx, _, 14, .int x14, rfl, rfl, .of ex, e14, x14, rfl, fun G2 z g2 zo => ?_⟩
      refine ⟨_, rfl, _, _, rfl, rfl, ⟨by decide, by decide, by decide⟩, _, _, rfl, rfl, bigPos _, _, _, rfl, rfl, by show 2 ≤ sizeLine; decide, fun tn ntn => ?_⟩
      have g3 := same_new (o := .tup [.str z, .int (1 + c % 10 ^ (19 : Int).toNat)]) ntn
      have hn : upd G2 tn (.tup [.str z, .int (1 + c % 10 ^ (19 : Int).toNat)]) tn = some (.tup [.str (z, 1 + c % 10 ^ (19 : Int).toNat).1, .int (z, 1 + c % 10 ^ (19 : Int).toNat).2]) := upd_same
      generalize hnm : ((z, 1 + c % 10 ^ (19 : Int).toNat) : Nm) = nm at hn
      have go : StrOk nm.1 := by
        rw [← hnm]
        exact zo
      have sm3 := (sm.trans g1).trans (g2.trans g3)
      have ex3 := g3 _ _ (g2 _ _ ex)
      generalize upd G2 tn (.tup [.str z, .int (1 + c % 10 ^ (19 : Int).toNat)]) = G3 at g3 hn sm3 ex3 ⊢
      -- time
      refine ⟨_, rfl, _, _, rfl, rfl, ⟨by decide, by decide⟩, _, rfl, lx, _, 15, .int x15, rfl, rfl, .of ex3, e15, _, _, rfl, rfl, _, _, rfl, rfl, ⟨by decide, by decide, by decide⟩, _, _, rfl, rfl, bigPos _, _, _, rfl, rfl, ?_⟩
      -- act
      refine ⟨_, rfl, lx, xs, rfl, .of ex3, lenx, fun G4 p ad g4 ac => ?_⟩
      have hn4 := g4 _ _ hn
      -- stroke
      refine ⟨_, rfl, _, rfl, _, rfl, tn, nm, _, p, ad, rfl, hn4, go, ac, fun G5 x g5 st => ?_⟩
      have hn5 := g5 _ _ hn4
      have ac5 := ac.same g5
      -- due
      refine ⟨_, rfl, _, rfl, tn, nm, p, ad, rfl, hn5, ac5, fun G6 due g6 dd => ?_⟩
      have lt : Lay 3 (toldD nm ad) := lay_told go ac.fine
      have st6 := st.same g6
      have ac6 := ac5.same g6
      have hn6 := g6 _ _ hn5
      have sm6 := ((sm3.trans g4).trans g5).trans g6
      -- told(stroke) != due
      refine ⟨_, rfl, x, tn, nm, _, ad, rfl, st6, fun G7 t7 _ _ _ g7 _ _ _ _ d7 => ?_⟩
      refine ⟨_, rfl, _, _, d7, dp_same g7 _ _ dd, lt.shaped (by decide), lt.shaped (by decide), _, rfl, ?_⟩
      rw [SeqAt.eqv_refl _ lt.c]
      show if (!true) = true then _ else _
      rw [if_neg (by decide)]
      -- row
      refine ⟨x, tn, nm, _, ad, rfl, st6.same g7, x, tn, nm, _, ad, rfl, ac.ns, st6.same g7, fun G8 v8 g8 d8 => ?_⟩
      refine ⟨_, rfl, _, rfl, _, rfl, by show 3 ≤ sizeLine; decide, fun p9 n9 => ?_⟩
      have g9 := same_new (o := .tup [.ref tn, .int (1 + (c / 7 + x15) % 10 ^ (19 : Int).toNat), .ref p]) n9
      have lr : Lay 4 (rowD nm (1 + (c / 7 + x15) % 10 ^ (19 : Int).toNat) ad) := lay_row go ac.fine
      have g79 := (g7.trans g8).trans g9
      refine ⟨_, rowD nm (1 + (c / 7 + x15) % 10 ^ (19 : Int).toNat) ad, dp_same g9 _ _ d8, .tup (.of upd_same) (.cons (dpN (g79 _ _ hn6)) (.cons (.int _) (.cons (AD.dp ad (g79 _ _ ac6.at_) (ac6.ok.same g79)) .nil))), lr.shaped (by decide), lr.shaped (by decide), _, rfl, ?_⟩
      rw [SeqAt.eqv_refl _ lr.c]
      show if (!true) = true then _ else _
      rw [if_neg (by decide)]
      -- kinds
      refine ⟨_, rfl, _, rfl, p, _, 0, .str ad.word, rfl, rfl, .of (g79 _ _ ac6.at_), word_at ad ac.ns, ?_⟩
      refine ⟨x, tn, nm, _, ad, rfl, ac.ns, st6.same g79, fun G10 g10 => ?_⟩
      refine ⟨_, rfl, ?_⟩
      show if (!true) = true then _ else _
      rw [if_neg (by decide)]
      have g6_10 := g79.trans g10
      have st10 := st6.same g6_10
      have dd10 := dp_same g6_10 _ _ dd
      have hn10 := g6_10 _ _ hn6
      have sm10 := sm6.trans g6_10
      -- the lists told are changed
      refine ⟨_, rfl, x, tn, nm, _, ad, rfl, st10, fun G11 t l1 l2 l3 g11 ht f1 f2 f3 d11 => ?_⟩
      refine ⟨t, rfl, ⟨_, .of ht⟩, for_tup (K := K) (a := t) (xs := [.ref l1, .ref l2, .ref l3]) (fun i σ G => ∃ y8 : Option V, σ = [some (.ref a), some (.int c), some (.ref lx), some (.ref tn), some (.int (1 + (c / 7 + x15) % 10 ^ (19 : Int).toNat)), some (.ref p), some (.ref x), some due, y8] ∧ Same G10 G ∧ G t = some (.tup [.ref l1, .ref l2, .ref l3]) ∧
          ∀ l, l = l1 ∨ l = l2 ∨ l = l3 → ∃ xs, G l = some (.lst xs) ∧ xs.length ≤ 70 + i)
        ⟨y8, rfl, g11, ht, fun l hl => ?_⟩ (fun i σ G _ ⟨_, _, _, e, _⟩ => .of e) ?_ ?_⟩
      · rcases hl with e | e | e
        · rw [e]
          exact f1.2
        · rw [e]
          exact f2.2
        · rw [e]
          exact f3.2
      · rintro j y σ G' hj ⟨z8, rfl, gs, gt, gl⟩
        have hy : ∃ l, y = .ref l ∧ (l = l1 ∨ l = l2 ∨ l = l3) ∧ G10 l = none := by
          have hm := List.mem_of_getElem? hj
          rcases List.mem_cons.mp hm with e | hm
          · exact ⟨l1, e, .inl rfl, f1.1⟩
          · rcases List.mem_cons.mp hm with e | hm
            · exact ⟨l2, e, .inr (.inl rfl), f2.1⟩
            · exact ⟨l3, List.mem_singleton.mp hm, .inr (.inr rfl), f3.1⟩
        obtain ⟨l, rfl, hl, nl⟩ := hy
        have j3 : j < 3 := (List.getElem?_eq_some_iff.mp hj).1
        obtain ⟨xl, el, ll⟩ := gl l hl
        refine ⟨_, rfl, .ref l, .ty "list", _, _, true, rfl, .ty "list", .base (.lst el), kit_ty (by decide +kernel), _, rfl, ?_⟩
        show if (!true) = true then _ else _
        rw [if_neg (by decide)]
        refine ⟨_, rfl, .inl ⟨rfl, _, .of el⟩, l, _, _, rfl, rfl, el, by rw [sizeLine_eq]; omega, ?_⟩
        refine ⟨_, rfl, same_put gs nl, ?_, fun k hk => ?_⟩
        · rw [upd_ne (ne_of gt el (by intro z; cases z))]
          exact gt
        · by_cases e : k = l
          · rw [e, upd_same]
            exact ⟨_, rfl, by rw [List.length_append]; show xl.length + 1 ≤ 70 + (j + 1); omega⟩
          · rw [upd_ne e]
            obtain ⟨xk, ek, lk⟩ := gl k hk
            exact ⟨xk, ek, by omega⟩
      · rintro σ G12 ⟨z8, rfl, gs, gt, gl⟩
        -- told again
        refine ⟨_, rfl, x, tn, nm, _, ad, rfl, st10.same gs, fun G13 t13 _ _ _ g13 _ _ _ _ d13 => ?_⟩
        refine ⟨_, rfl, _, _, d13, dp_same (gs.trans g13) _ _ dd10, lt.shaped (by decide), lt.shaped (by decide), _, rfl, ?_⟩
        rw [SeqAt.eqv_refl _ lt.c]
        show if (!true) = true then _ else _
        rw [if_neg (by decide)]
        -- a plain stroke
        have g1013 := gs.trans g13
        refine ⟨_, rfl, _, rfl, fun x2 dx nx ndx nex => ?_⟩
        obtain ⟨sn, stn⟩ := made_st (A := A) (tm := 1 + (c / 7 + x15) % 10 ^ (19 : Int).toNat) (ad := .non) (C := A.cS) nx ndx (g1013 _ _ hn10) go trivial trivial rfl
        refine ⟨x2, _, dx, .ref tn, .int (1 + (c / 7 + x15) % 10 ^ (19 : Int).toNat), rfl, T.cf .s, upd_same, rfl, ?_⟩
        refine ⟨x2, tn, nm, _, .non, rfl, stn, fun G14 t14 _ _ _ g14 _ _ _ _ d14 => ?_⟩
        refine ⟨Nat.zero_le _, fun k1 m1 => ⟨Nat.zero_le _, fun k2 m2 => ⟨Nat.zero_le _, fun k3 m3 => ⟨by show 3 ≤ sizeLine; decide, fun k4 m4 => ?_⟩⟩⟩⟩
        have q1 := same_new (o := .lst []) m1
        have q2 := same_new (o := .lst []) m2
        have q3 := same_new (o := .lst []) m3
        have q4 := same_new (o := .tup [.ref k1, .ref k2, .ref k3]) m4
        have nil3 : toldD nm .non = .tuple [.list [], .list [], .list []] := by
          have e : leansD (AD.non).used = [] := List.eq_nil_of_length_eq_zero (Nat.le_zero.mp (leansD_len []))
          unfold toldD
          rw [e]
          rfl
        rw [nil3] at d14
        have l3' : Lay 2 (.tuple [.list [], .list [], .list []]) := lay_tup (layAll_cons (lay_list (layAll_nil 0)) (layAll_cons (lay_list (layAll_nil 0)) (layAll_cons (lay_list (layAll_nil 0)) (layAll_nil 1))))
        refine ⟨_, .tuple [.list [], .list [], .list []], dp_same (((q1.trans q2).trans q3).trans q4) _ _ d14, .tup (.of upd_same) (.cons (.lst (.of (q4 _ _ (q3 _ _ (q2 _ _ upd_same)))) .nil) (.cons (.lst (.of (q4 _ _ (q3 _ _ upd_same))) .nil) (.cons (.lst (.of (q4 _ _ upd_same)) .nil) .nil))), l3'.shaped (by decide), l3'.shaped (by decide), _, rfl, ?_⟩
        rw [SeqAt.eqv_refl _ l3'.c]
        show if (!true) = true then _ else _
        rw [if_neg (by decide)]
        exact ⟨_, _, _, _, _, _, _, _, rfl, (((((sm10.trans g1013).trans sn).trans g14).trans ((q1.trans q2).trans q3)).trans q4)⟩
    · rintro σ G _
      exact q G
end
end Rq

namespace Rq
open PySem PySem.Spec PyProof.Rows L2
/-! ### what the top has left (printed by gen.py) -/
theorem all_mk {l : PySem.W.OpenLaw} {w : World} {K : PySem.W.Frag} {h : Heap} {mg : Str → Option Value} {fa : Addr} (X : K.In h) (G : h.Ns mainGlobals mg) (hfa : mg "law" = some (.ref fa))
    {cS cP cN cK cD cM iS slS toS anS row lea own iP slP anP acP iN toN acK iD acD iM slM anM acM lCell lStr lPen lSlot lNames lAct lMade lDue lTold lKinds lLaw : Addr}
    {od_iS an_iS od_slS an_slS od_toS an_toS od_anS an_anS od_row an_row od_lea an_lea od_own an_own od_iP an_iP od_slP an_slP od_anP an_anP od_acP an_acP od_iN an_iN od_toN an_toN od_acK an_acK od_iD an_iD od_acD an_acD od_iM an_iM od_slM an_slM od_anM an_anM od_acM an_acM od_lCell an_lCell od_lStr an_lStr od_lPen an_lPen od_lSlot an_lSlot od_lNames an_lNames od_lAct an_lAct od_lMade an_lMade od_lDue an_lDue od_lTold an_lTold od_lKinds an_lKinds od_lLaw an_lLaw : Option Addr}
    {sl_iS sl_slS sl_toS sl_anS sl_row sl_lea sl_own sl_iP sl_slP sl_anP sl_acP sl_iN sl_toN sl_acK sl_iD sl_acD sl_iM sl_slM sl_anM sl_acM sl_lCell sl_lStr sl_lPen sl_lSlot sl_lNames sl_lAct sl_lMade sl_lDue sl_lTold sl_lKinds sl_lLaw : Array (Option Value)}
    {oc_iS kV_iS dc_iS pm_iS cd_iS ct_iS oc_slS kV_slS dc_slS pm_slS cd_slS ct_slS oc_toS kV_toS dc_toS pm_toS cd_toS ct_toS oc_anS kV_anS dc_anS pm_anS cd_anS ct_anS oc_row kV_row dc_row pm_row cd_row ct_row oc_lea kV_lea dc_lea pm_lea cd_lea ct_lea oc_own kV_own dc_own pm_own cd_own ct_own oc_iP kV_iP dc_iP pm_iP cd_iP ct_iP oc_slP kV_slP dc_slP pm_slP cd_slP ct_slP oc_anP kV_anP dc_anP pm_anP cd_anP ct_anP oc_acP kV_acP dc_acP pm_acP cd_acP ct_acP oc_iN kV_iN dc_iN pm_iN cd_iN ct_iN oc_toN kV_toN dc_toN pm_toN cd_toN ct_toN oc_acK kV_acK dc_acK pm_acK cd_acK ct_acK oc_iD kV_iD dc_iD pm_iD cd_iD ct_iD oc_acD kV_acD dc_acD pm_acD cd_acD ct_acD oc_iM kV_iM dc_iM pm_iM cd_iM ct_iM oc_slM kV_slM dc_slM pm_slM cd_slM ct_slM oc_anM kV_anM dc_anM pm_anM cd_anM ct_anM oc_acM kV_acM dc_acM pm_acM cd_acM ct_acM oc_lCell kV_lCell dc_lCell pm_lCell cd_lCell ct_lCell oc_lStr kV_lStr dc_lStr pm_lStr cd_lStr ct_lStr oc_lPen kV_lPen dc_lPen pm_lPen cd_lPen ct_lPen oc_lSlot kV_lSlot dc_lSlot pm_lSlot cd_lSlot ct_lSlot oc_lNames kV_lNames dc_lNames pm_lNames cd_lNames ct_lNames oc_lAct kV_lAct dc_lAct pm_lAct cd_lAct ct_lAct oc_lMade kV_lMade dc_lMade pm_lMade cd_lMade ct_lMade oc_lDue kV_lDue dc_lDue pm_lDue cd_lDue ct_lDue oc_lTold kV_lTold dc_lTold pm_lTold cd_lTold ct_lTold oc_lKinds kV_lKinds dc_lKinds pm_lKinds cd_lKinds ct_lKinds oc_lLaw kV_lLaw dc_lLaw pm_lLaw cd_lLaw ct_lLaw : Value}
    (ns_cS : PySem.W.nsIn K mainGlobals "Stroke" = some (some (.ref cS)))
    (ns_cP : PySem.W.nsIn K mainGlobals "Put" = some (some (.ref cP)))
    (ns_cN : PySem.W.nsIn K mainGlobals "Naming" = some (some (.ref cN)))
    (ns_cK : PySem.W.nsIn K mainGlobals "Strike" = some (some (.ref cK)))
    (ns_cD : PySem.W.nsIn K mainGlobals "Dress" = some (some (.ref cD)))
    (ns_cM : PySem.W.nsIn K mainGlobals "Move" = some (some (.ref cM)))
    (at_iS : PySem.W.findIn K (.ref cS) "__init__" = some (some (.ref iS)))
    (l_iS : K.lookup iS = some ⟨oc_iS, od_iS, .func (PySem.W.fnOf "__init__" "Stroke.__init__" (defArgs sIS) (defBody sIS) (defScope sIS) .none kV_iS dc_iS pm_iS an_iS cd_iS ct_iS), sl_iS⟩)
    (c_iS : PySem.W.codeIn K cd_iS "Stroke.__init__" = true)
    (k_iS : PySem.W.keepIn K (.ref iS) = true)
    (i_iS : PySem.W.isFn K (.ref iS) = true)
    (at_slS : PySem.W.findIn K (.ref cS) "slots" = some (some (.ref slS)))
    (l_slS : K.lookup slS = some ⟨oc_slS, od_slS, .func (PySem.W.fnOf "slots" "Stroke.slots" (defArgs sSlS) (defBody sSlS) (defScope sSlS) .none kV_slS dc_slS pm_slS an_slS cd_slS ct_slS), sl_slS⟩)
    (c_slS : PySem.W.codeIn K cd_slS "Stroke.slots" = true)
    (k_slS : PySem.W.keepIn K (.ref slS) = true)
    (i_slS : PySem.W.isFn K (.ref slS) = true)
    (at_toS : PySem.W.findIn K (.ref cS) "touched" = some (some (.ref toS)))
    (l_toS : K.lookup toS = some ⟨oc_toS, od_toS, .func (PySem.W.fnOf "touched" "Stroke.touched" (defArgs sToS) (defBody sToS) (defScope sToS) .none kV_toS dc_toS pm_toS an_toS cd_toS ct_toS), sl_toS⟩)
    (c_toS : PySem.W.codeIn K cd_toS "Stroke.touched" = true)
    (k_toS : PySem.W.keepIn K (.ref toS) = true)
    (i_toS : PySem.W.isFn K (.ref toS) = true)
    (at_anS : PySem.W.findIn K (.ref cS) "anchors" = some (some (.ref anS)))
    (l_anS : K.lookup anS = some ⟨oc_anS, od_anS, .func (PySem.W.fnOf "anchors" "Stroke.anchors" (defArgs sAnS) (defBody sAnS) (defScope sAnS) .none kV_anS dc_anS pm_anS an_anS cd_anS ct_anS), sl_anS⟩)
    (c_anS : PySem.W.codeIn K cd_anS "Stroke.anchors" = true)
    (k_anS : PySem.W.keepIn K (.ref anS) = true)
    (i_anS : PySem.W.isFn K (.ref anS) = true)
    (at_row : PySem.W.findIn K (.ref cS) "row" = some (some (.ref row)))
    (l_row : K.lookup row = some ⟨oc_row, od_row, .func (PySem.W.fnOf "row" "Stroke.row" (defArgs sRow) (defBody sRow) (defScope sRow) .none kV_row dc_row pm_row an_row cd_row ct_row), sl_row⟩)
    (c_row : PySem.W.codeIn K cd_row "Stroke.row" = true)
    (k_row : PySem.W.keepIn K (.ref row) = true)
    (i_row : PySem.W.isFn K (.ref row) = true)
    (at_lea : PySem.W.findIn K (.ref cS) "leans" = some (some (.ref lea)))
    (l_lea : K.lookup lea = some ⟨oc_lea, od_lea, .func (PySem.W.fnOf "leans" "Stroke.leans" (defArgs sLea) (defBody sLea) (defScope sLea) .none kV_lea dc_lea pm_lea an_lea cd_lea ct_lea), sl_lea⟩)
    (c_lea : PySem.W.codeIn K cd_lea "Stroke.leans" = true)
    (k_lea : PySem.W.keepIn K (.ref lea) = true)
    (i_lea : PySem.W.isFn K (.ref lea) = true)
    (at_own : PySem.W.findIn K (.ref cS) "own_slots" = some (some (.ref own)))
    (l_own : K.lookup own = some ⟨oc_own, od_own, .func (PySem.W.fnOf "own_slots" "Stroke.own_slots" (defArgs sOwn) (defBody sOwn) (defScope sOwn) .none kV_own dc_own pm_own an_own cd_own ct_own), sl_own⟩)
    (c_own : PySem.W.codeIn K cd_own "Stroke.own_slots" = true)
    (k_own : PySem.W.keepIn K (.ref own) = true)
    (i_own : PySem.W.isFn K (.ref own) = true)
    (at_iP : PySem.W.findIn K (.ref cP) "__init__" = some (some (.ref iP)))
    (l_iP : K.lookup iP = some ⟨oc_iP, od_iP, .func (PySem.W.fnOf "__init__" "Put.__init__" (defArgs sIP) (defBody sIP) (defScope sIP) .none kV_iP dc_iP pm_iP an_iP cd_iP ct_iP), sl_iP⟩)
    (c_iP : PySem.W.codeIn K cd_iP "Put.__init__" = true)
    (k_iP : PySem.W.keepIn K (.ref iP) = true)
    (i_iP : PySem.W.isFn K (.ref iP) = true)
    (at_slP : PySem.W.findIn K (.ref cP) "slots" = some (some (.ref slP)))
    (l_slP : K.lookup slP = some ⟨oc_slP, od_slP, .func (PySem.W.fnOf "slots" "Put.slots" (defArgs sSlP) (defBody sSlP) (defScope sSlP) .none kV_slP dc_slP pm_slP an_slP cd_slP ct_slP), sl_slP⟩)
    (c_slP : PySem.W.codeIn K cd_slP "Put.slots" = true)
    (k_slP : PySem.W.keepIn K (.ref slP) = true)
    (i_slP : PySem.W.isFn K (.ref slP) = true)
    (at_anP : PySem.W.findIn K (.ref cP) "anchors" = some (some (.ref anP)))
    (l_anP : K.lookup anP = some ⟨oc_anP, od_anP, .func (PySem.W.fnOf "anchors" "Put.anchors" (defArgs sAnP) (defBody sAnP) (defScope sAnP) .none kV_anP dc_anP pm_anP an_anP cd_anP ct_anP), sl_anP⟩)
    (c_anP : PySem.W.codeIn K cd_anP "Put.anchors" = true)
    (k_anP : PySem.W.keepIn K (.ref anP) = true)
    (i_anP : PySem.W.isFn K (.ref anP) = true)
    (at_acP : PySem.W.findIn K (.ref cP) "act" = some (some (.ref acP)))
    (l_acP : K.lookup acP = some ⟨oc_acP, od_acP, .func (PySem.W.fnOf "act" "Put.act" (defArgs sAcP) (defBody sAcP) (defScope sAcP) .none kV_acP dc_acP pm_acP an_acP cd_acP ct_acP), sl_acP⟩)
    (c_acP : PySem.W.codeIn K cd_acP "Put.act" = true)
    (k_acP : PySem.W.keepIn K (.ref acP) = true)
    (i_acP : PySem.W.isFn K (.ref acP) = true)
    (at_iN : PySem.W.findIn K (.ref cN) "__init__" = some (some (.ref iN)))
    (l_iN : K.lookup iN = some ⟨oc_iN, od_iN, .func (PySem.W.fnOf "__init__" "Naming.__init__" (defArgs sIN) (defBody sIN) (defScope sIN) .none kV_iN dc_iN pm_iN an_iN cd_iN ct_iN), sl_iN⟩)
    (c_iN : PySem.W.codeIn K cd_iN "Naming.__init__" = true)
    (k_iN : PySem.W.keepIn K (.ref iN) = true)
    (i_iN : PySem.W.isFn K (.ref iN) = true)
    (at_toN : PySem.W.findIn K (.ref cN) "touched" = some (some (.ref toN)))
    (l_toN : K.lookup toN = some ⟨oc_toN, od_toN, .func (PySem.W.fnOf "touched" "Naming.touched" (defArgs sToN) (defBody sToN) (defScope sToN) .none kV_toN dc_toN pm_toN an_toN cd_toN ct_toN), sl_toN⟩)
    (c_toN : PySem.W.codeIn K cd_toN "Naming.touched" = true)
    (k_toN : PySem.W.keepIn K (.ref toN) = true)
    (i_toN : PySem.W.isFn K (.ref toN) = true)
    (at_acK : PySem.W.findIn K (.ref cK) "act" = some (some (.ref acK)))
    (l_acK : K.lookup acK = some ⟨oc_acK, od_acK, .func (PySem.W.fnOf "act" "Strike.act" (defArgs sAcK) (defBody sAcK) (defScope sAcK) .none kV_acK dc_acK pm_acK an_acK cd_acK ct_acK), sl_acK⟩)
    (c_acK : PySem.W.codeIn K cd_acK "Strike.act" = true)
    (k_acK : PySem.W.keepIn K (.ref acK) = true)
    (i_acK : PySem.W.isFn K (.ref acK) = true)
    (at_iD : PySem.W.findIn K (.ref cD) "__init__" = some (some (.ref iD)))
    (l_iD : K.lookup iD = some ⟨oc_iD, od_iD, .func (PySem.W.fnOf "__init__" "Dress.__init__" (defArgs sID) (defBody sID) (defScope sID) .none kV_iD dc_iD pm_iD an_iD cd_iD ct_iD), sl_iD⟩)
    (c_iD : PySem.W.codeIn K cd_iD "Dress.__init__" = true)
    (k_iD : PySem.W.keepIn K (.ref iD) = true)
    (i_iD : PySem.W.isFn K (.ref iD) = true)
    (at_acD : PySem.W.findIn K (.ref cD) "act" = some (some (.ref acD)))
    (l_acD : K.lookup acD = some ⟨oc_acD, od_acD, .func (PySem.W.fnOf "act" "Dress.act" (defArgs sAcD) (defBody sAcD) (defScope sAcD) .none kV_acD dc_acD pm_acD an_acD cd_acD ct_acD), sl_acD⟩)
    (c_acD : PySem.W.codeIn K cd_acD "Dress.act" = true)
    (k_acD : PySem.W.keepIn K (.ref acD) = true)
    (i_acD : PySem.W.isFn K (.ref acD) = true)
    (at_iM : PySem.W.findIn K (.ref cM) "__init__" = some (some (.ref iM)))
    (l_iM : K.lookup iM = some ⟨oc_iM, od_iM, .func (PySem.W.fnOf "__init__" "Move.__init__" (defArgs sIM) (defBody sIM) (defScope sIM) .none kV_iM dc_iM pm_iM an_iM cd_iM ct_iM), sl_iM⟩)
    (c_iM : PySem.W.codeIn K cd_iM "Move.__init__" = true)
    (k_iM : PySem.W.keepIn K (.ref iM) = true)
    (i_iM : PySem.W.isFn K (.ref iM) = true)
    (at_slM : PySem.W.findIn K (.ref cM) "slots" = some (some (.ref slM)))
    (l_slM : K.lookup slM = some ⟨oc_slM, od_slM, .func (PySem.W.fnOf "slots" "Move.slots" (defArgs sSlM) (defBody sSlM) (defScope sSlM) .none kV_slM dc_slM pm_slM an_slM cd_slM ct_slM), sl_slM⟩)
    (c_slM : PySem.W.codeIn K cd_slM "Move.slots" = true)
    (k_slM : PySem.W.keepIn K (.ref slM) = true)
    (i_slM : PySem.W.isFn K (.ref slM) = true)
    (at_anM : PySem.W.findIn K (.ref cM) "anchors" = some (some (.ref anM)))
    (l_anM : K.lookup anM = some ⟨oc_anM, od_anM, .func (PySem.W.fnOf "anchors" "Move.anchors" (defArgs sAnM) (defBody sAnM) (defScope sAnM) .none kV_anM dc_anM pm_anM an_anM cd_anM ct_anM), sl_anM⟩)
    (c_anM : PySem.W.codeIn K cd_anM "Move.anchors" = true)
    (k_anM : PySem.W.keepIn K (.ref anM) = true)
    (i_anM : PySem.W.isFn K (.ref anM) = true)
    (at_acM : PySem.W.findIn K (.ref cM) "act" = some (some (.ref acM)))
    (l_acM : K.lookup acM = some ⟨oc_acM, od_acM, .func (PySem.W.fnOf "act" "Move.act" (defArgs sAcM) (defBody sAcM) (defScope sAcM) .none kV_acM dc_acM pm_acM an_acM cd_acM ct_acM), sl_acM⟩)
    (c_acM : PySem.W.codeIn K cd_acM "Move.act" = true)
    (k_acM : PySem.W.keepIn K (.ref acM) = true)
    (i_acM : PySem.W.isFn K (.ref acM) = true)
    (at_lCell : PySem.W.nsIn K mainGlobals "_law_cell_at" = some (some (.ref lCell)))
    (l_lCell : K.lookup lCell = some ⟨oc_lCell, od_lCell, .func (PySem.W.fnOf "_law_cell_at" "_law_cell_at" (defArgs sLCell) (defBody sLCell) (defScope sLCell) .none kV_lCell dc_lCell pm_lCell an_lCell cd_lCell ct_lCell), sl_lCell⟩)
    (c_lCell : PySem.W.codeIn K cd_lCell "_law_cell_at" = true)
    (k_lCell : PySem.W.keepIn K (.ref lCell) = true)
    (at_lStr : PySem.W.nsIn K mainGlobals "_law_stream" = some (some (.ref lStr)))
    (l_lStr : K.lookup lStr = some ⟨oc_lStr, od_lStr, .func (PySem.W.fnOf "_law_stream" "_law_stream" (defArgs sLStr) (defBody sLStr) (defScope sLStr) .none kV_lStr dc_lStr pm_lStr an_lStr cd_lStr ct_lStr), sl_lStr⟩)
    (c_lStr : PySem.W.codeIn K cd_lStr "_law_stream" = true)
    (k_lStr : PySem.W.keepIn K (.ref lStr) = true)
    (at_lPen : PySem.W.nsIn K mainGlobals "_law_pen" = some (some (.ref lPen)))
    (l_lPen : K.lookup lPen = some ⟨oc_lPen, od_lPen, .func (PySem.W.fnOf "_law_pen" "_law_pen" (defArgs sLPen) (defBody sLPen) (defScope sLPen) .none kV_lPen dc_lPen pm_lPen an_lPen cd_lPen ct_lPen), sl_lPen⟩)
    (c_lPen : PySem.W.codeIn K cd_lPen "_law_pen" = true)
    (k_lPen : PySem.W.keepIn K (.ref lPen) = true)
    (at_lSlot : PySem.W.nsIn K mainGlobals "_law_slot" = some (some (.ref lSlot)))
    (l_lSlot : K.lookup lSlot = some ⟨oc_lSlot, od_lSlot, .func (PySem.W.fnOf "_law_slot" "_law_slot" (defArgs sLSlot) (defBody sLSlot) (defScope sLSlot) .none kV_lSlot dc_lSlot pm_lSlot an_lSlot cd_lSlot ct_lSlot), sl_lSlot⟩)
    (c_lSlot : PySem.W.codeIn K cd_lSlot "_law_slot" = true)
    (k_lSlot : PySem.W.keepIn K (.ref lSlot) = true)
    (at_lNames : PySem.W.nsIn K mainGlobals "_law_names" = some (some (.ref lNames)))
    (l_lNames : K.lookup lNames = some ⟨oc_lNames, od_lNames, .func (PySem.W.fnOf "_law_names" "_law_names" (defArgs sLNames) (defBody sLNames) (defScope sLNames) .none kV_lNames dc_lNames pm_lNames an_lNames cd_lNames ct_lNames), sl_lNames⟩)
    (c_lNames : PySem.W.codeIn K cd_lNames "_law_names" = true)
    (k_lNames : PySem.W.keepIn K (.ref lNames) = true)
    (at_lAct : PySem.W.nsIn K mainGlobals "_law_act" = some (some (.ref lAct)))
    (l_lAct : K.lookup lAct = some ⟨oc_lAct, od_lAct, .func (PySem.W.fnOf "_law_act" "_law_act" (defArgs sLAct) (defBody sLAct) (defScope sLAct) .none kV_lAct dc_lAct pm_lAct an_lAct cd_lAct ct_lAct), sl_lAct⟩)
    (c_lAct : PySem.W.codeIn K cd_lAct "_law_act" = true)
    (k_lAct : PySem.W.keepIn K (.ref lAct) = true)
    (at_lMade : PySem.W.nsIn K mainGlobals "_law_made" = some (some (.ref lMade)))
    (l_lMade : K.lookup lMade = some ⟨oc_lMade, od_lMade, .func (PySem.W.fnOf "_law_made" "_law_made" (defArgs sLMade) (defBody sLMade) (defScope sLMade) .none kV_lMade dc_lMade pm_lMade an_lMade cd_lMade ct_lMade), sl_lMade⟩)
    (c_lMade : PySem.W.codeIn K cd_lMade "_law_made" = true)
    (k_lMade : PySem.W.keepIn K (.ref lMade) = true)
    (at_lDue : PySem.W.nsIn K mainGlobals "_law_due" = some (some (.ref lDue)))
    (l_lDue : K.lookup lDue = some ⟨oc_lDue, od_lDue, .func (PySem.W.fnOf "_law_due" "_law_due" (defArgs sLDue) (defBody sLDue) (defScope sLDue) .none kV_lDue dc_lDue pm_lDue an_lDue cd_lDue ct_lDue), sl_lDue⟩)
    (c_lDue : PySem.W.codeIn K cd_lDue "_law_due" = true)
    (k_lDue : PySem.W.keepIn K (.ref lDue) = true)
    (at_lTold : PySem.W.nsIn K mainGlobals "_law_told" = some (some (.ref lTold)))
    (l_lTold : K.lookup lTold = some ⟨oc_lTold, od_lTold, .func (PySem.W.fnOf "_law_told" "_law_told" (defArgs sLTold) (defBody sLTold) (defScope sLTold) .none kV_lTold dc_lTold pm_lTold an_lTold cd_lTold ct_lTold), sl_lTold⟩)
    (c_lTold : PySem.W.codeIn K cd_lTold "_law_told" = true)
    (k_lTold : PySem.W.keepIn K (.ref lTold) = true)
    (at_lKinds : PySem.W.nsIn K mainGlobals "_law_kinds" = some (some (.ref lKinds)))
    (l_lKinds : K.lookup lKinds = some ⟨oc_lKinds, od_lKinds, .func (PySem.W.fnOf "_law_kinds" "_law_kinds" (defArgs sLKinds) (defBody sLKinds) (defScope sLKinds) .none kV_lKinds dc_lKinds pm_lKinds an_lKinds cd_lKinds ct_lKinds), sl_lKinds⟩)
    (c_lKinds : PySem.W.codeIn K cd_lKinds "_law_kinds" = true)
    (k_lKinds : PySem.W.keepIn K (.ref lKinds) = true)
    (at_lLaw : PySem.W.nsIn K mainGlobals "law" = some (some (.ref lLaw)))
    (l_lLaw : K.lookup lLaw = some ⟨oc_lLaw, od_lLaw, .func (PySem.W.fnOf "law" "law" (defArgs sLaw) (defBody sLaw) (defScope sLaw) .none kV_lLaw dc_lLaw pm_lLaw an_lLaw cd_lLaw ct_lLaw), sl_lLaw⟩)
    (c_lLaw : PySem.W.codeIn K cd_lLaw "law" = true)
    (k_lLaw : PySem.W.keepIn K (.ref lLaw) = true)
    (pg_s : PySem.W.plainGet K cS Str.empty = true)
    (hd_s : PySem.W.hasDictIn K cS = true)
    (po_s : PySem.W.plainOver K cS = true)
    (sa_s : PySem.W.findIn K (.ref cS) "__setattr__" = some (some (.builtin "object.__setattr__")))
    (mk_s : PySem.W.makesIn K cS = true)
    (kc_s : PySem.W.keepIn K (.ref cS) = true)
    (n_s_name : PySem.W.findIn K (.ref cS) "name" = some none)
    (n_s_time : PySem.W.findIn K (.ref cS) "time" = some none)
    (n_s_anchor : PySem.W.findIn K (.ref cS) "anchor" = some none)
    (n_s_signs : PySem.W.findIn K (.ref cS) "signs" = some none)
    (n_s_names : PySem.W.findIn K (.ref cS) "names" = some none)
    (n_s_word : PySem.W.findIn K (.ref cS) "word" = some none)
    (ca_s : PySem.W.findIn K (.ref cS) "__class__" = some (some (.builtin "object.__class__")))
    (ob_s : PySem.W.mroIn K cS (.type "object") = some true)
    (ic_s : PySem.W.isClsIn K cS = true)
    (ty_s : PySem.W.typeIn K (.ref cS) = some (.type "type"))
    (at_p_touched : PySem.W.findIn K (.ref cP) "touched" = some (some (.ref toS)))
    (at_p_row : PySem.W.findIn K (.ref cP) "row" = some (some (.ref row)))
    (at_p_leans : PySem.W.findIn K (.ref cP) "leans" = some (some (.ref lea)))
    (at_p_own_slots : PySem.W.findIn K (.ref cP) "own_slots" = some (some (.ref own)))
    (pg_p : PySem.W.plainGet K cP Str.empty = true)
    (hd_p : PySem.W.hasDictIn K cP = true)
    (po_p : PySem.W.plainOver K cP = true)
    (sa_p : PySem.W.findIn K (.ref cP) "__setattr__" = some (some (.builtin "object.__setattr__")))
    (mk_p : PySem.W.makesIn K cP = true)
    (kc_p : PySem.W.keepIn K (.ref cP) = true)
    (n_p_name : PySem.W.findIn K (.ref cP) "name" = some none)
    (n_p_time : PySem.W.findIn K (.ref cP) "time" = some none)
    (n_p_anchor : PySem.W.findIn K (.ref cP) "anchor" = some none)
    (n_p_signs : PySem.W.findIn K (.ref cP) "signs" = some none)
    (n_p_names : PySem.W.findIn K (.ref cP) "names" = some none)
    (n_p_word : PySem.W.findIn K (.ref cP) "word" = some none)
    (ca_p : PySem.W.findIn K (.ref cP) "__class__" = some (some (.builtin "object.__class__")))
    (ob_p : PySem.W.mroIn K cP (.type "object") = some true)
    (ic_p : PySem.W.isClsIn K cP = true)
    (ty_p : PySem.W.typeIn K (.ref cP) = some (.type "type"))
    (at_k_init : PySem.W.findIn K (.ref cK) "__init__" = some (some (.ref iN)))
    (at_k_slots : PySem.W.findIn K (.ref cK) "slots" = some (some (.ref slS)))
    (at_k_touched : PySem.W.findIn K (.ref cK) "touched" = some (some (.ref toN)))
    (at_k_anchors : PySem.W.findIn K (.ref cK) "anchors" = some (some (.ref anS)))
    (at_k_row : PySem.W.findIn K (.ref cK) "row" = some (some (.ref row)))
    (at_k_leans : PySem.W.findIn K (.ref cK) "leans" = some (some (.ref lea)))
    (at_k_own_slots : PySem.W.findIn K (.ref cK) "own_slots" = some (some (.ref own)))
    (pg_k : PySem.W.plainGet K cK Str.empty = true)
    (hd_k : PySem.W.hasDictIn K cK = true)
    (po_k : PySem.W.plainOver K cK = true)
    (sa_k : PySem.W.findIn K (.ref cK) "__setattr__" = some (some (.builtin "object.__setattr__")))
    (mk_k : PySem.W.makesIn K cK = true)
    (kc_k : PySem.W.keepIn K (.ref cK) = true)
    (n_k_name : PySem.W.findIn K (.ref cK) "name" = some none)
    (n_k_time : PySem.W.findIn K (.ref cK) "time" = some none)
    (n_k_anchor : PySem.W.findIn K (.ref cK) "anchor" = some none)
    (n_k_signs : PySem.W.findIn K (.ref cK) "signs" = some none)
    (n_k_names : PySem.W.findIn K (.ref cK) "names" = some none)
    (n_k_word : PySem.W.findIn K (.ref cK) "word" = some none)
    (ca_k : PySem.W.findIn K (.ref cK) "__class__" = some (some (.builtin "object.__class__")))
    (ob_k : PySem.W.mroIn K cK (.type "object") = some true)
    (ic_k : PySem.W.isClsIn K cK = true)
    (ty_k : PySem.W.typeIn K (.ref cK) = some (.type "type"))
    (at_d_slots : PySem.W.findIn K (.ref cD) "slots" = some (some (.ref slS)))
    (at_d_touched : PySem.W.findIn K (.ref cD) "touched" = some (some (.ref toN)))
    (at_d_anchors : PySem.W.findIn K (.ref cD) "anchors" = some (some (.ref anS)))
    (at_d_row : PySem.W.findIn K (.ref cD) "row" = some (some (.ref row)))
    (at_d_leans : PySem.W.findIn K (.ref cD) "leans" = some (some (.ref lea)))
    (at_d_own_slots : PySem.W.findIn K (.ref cD) "own_slots" = some (some (.ref own)))
    (pg_d : PySem.W.plainGet K cD Str.empty = true)
    (hd_d : PySem.W.hasDictIn K cD = true)
    (po_d : PySem.W.plainOver K cD = true)
    (sa_d : PySem.W.findIn K (.ref cD) "__setattr__" = some (some (.builtin "object.__setattr__")))
    (mk_d : PySem.W.makesIn K cD = true)
    (kc_d : PySem.W.keepIn K (.ref cD) = true)
    (n_d_name : PySem.W.findIn K (.ref cD) "name" = some none)
    (n_d_time : PySem.W.findIn K (.ref cD) "time" = some none)
    (n_d_anchor : PySem.W.findIn K (.ref cD) "anchor" = some none)
    (n_d_signs : PySem.W.findIn K (.ref cD) "signs" = some none)
    (n_d_names : PySem.W.findIn K (.ref cD) "names" = some none)
    (n_d_word : PySem.W.findIn K (.ref cD) "word" = some none)
    (ca_d : PySem.W.findIn K (.ref cD) "__class__" = some (some (.builtin "object.__class__")))
    (ob_d : PySem.W.mroIn K cD (.type "object") = some true)
    (ic_d : PySem.W.isClsIn K cD = true)
    (ty_d : PySem.W.typeIn K (.ref cD) = some (.type "type"))
    (at_m_touched : PySem.W.findIn K (.ref cM) "touched" = some (some (.ref toN)))
    (at_m_row : PySem.W.findIn K (.ref cM) "row" = some (some (.ref row)))
    (at_m_leans : PySem.W.findIn K (.ref cM) "leans" = some (some (.ref lea)))
    (at_m_own_slots : PySem.W.findIn K (.ref cM) "own_slots" = some (some (.ref own)))
    (pg_m : PySem.W.plainGet K cM Str.empty = true)
    (hd_m : PySem.W.hasDictIn K cM = true)
    (po_m : PySem.W.plainOver K cM = true)
    (sa_m : PySem.W.findIn K (.ref cM) "__setattr__" = some (some (.builtin "object.__setattr__")))
    (mk_m : PySem.W.makesIn K cM = true)
    (kc_m : PySem.W.keepIn K (.ref cM) = true)
    (n_m_name : PySem.W.findIn K (.ref cM) "name" = some none)
    (n_m_time : PySem.W.findIn K (.ref cM) "time" = some none)
    (n_m_anchor : PySem.W.findIn K (.ref cM) "anchor" = some none)
    (n_m_signs : PySem.W.findIn K (.ref cM) "signs" = some none)
    (n_m_names : PySem.W.findIn K (.ref cM) "names" = some none)
    (n_m_word : PySem.W.findIn K (.ref cM) "word" = some none)
    (ca_m : PySem.W.findIn K (.ref cM) "__class__" = some (some (.builtin "object.__class__")))
    (ob_m : PySem.W.mroIn K cM (.type "object") = some true)
    (ic_m : PySem.W.isClsIn K cM = true)
    (ty_m : PySem.W.typeIn K (.ref cM) = some (.type "type"))
    (rd_S : PySem.W.readsIn K cS (.type "type") = true)
    (ga_S : PySem.W.specialIn K (.ref cS) "__getattribute__" = some (some (.builtin "type.__getattribute__")))
    (fc_S : PySem.W.findCls K (.ref cS) (.type "type") "__init__" = some (.val (.ref iS)))
    (rd_N : PySem.W.readsIn K cN (.type "type") = true)
    (ga_N : PySem.W.specialIn K (.ref cN) "__getattribute__" = some (some (.builtin "type.__getattribute__")))
    (fc_N : PySem.W.findCls K (.ref cN) (.type "type") "__init__" = some (.val (.ref iN)))
    (cg : PySem.W.specialIn K (.builtin "object.__class__") "__get__" = some (some (.builtin "getset_descriptor.__get__")))
    (ct : PySem.W.takesIn K (.builtin "object.__class__") = some true)
    (sub_p_s : PySem.W.subIn K (.ref cP) (.ref cS) = some true)
    (sub_p_k : PySem.W.subIn K (.ref cP) (.ref cK) = some false)
    (sub_p_d : PySem.W.subIn K (.ref cP) (.ref cD) = some false)
    (sub_p_m : PySem.W.subIn K (.ref cP) (.ref cM) = some false)
    (sub_k_s : PySem.W.subIn K (.ref cK) (.ref cS) = some true)
    (sub_k_p : PySem.W.subIn K (.ref cK) (.ref cP) = some false)
    (sub_k_d : PySem.W.subIn K (.ref cK) (.ref cD) = some false)
    (sub_k_m : PySem.W.subIn K (.ref cK) (.ref cM) = some false)
    (sub_d_s : PySem.W.subIn K (.ref cD) (.ref cS) = some true)
    (sub_d_p : PySem.W.subIn K (.ref cD) (.ref cP) = some false)
    (sub_d_k : PySem.W.subIn K (.ref cD) (.ref cK) = some false)
    (sub_d_m : PySem.W.subIn K (.ref cD) (.ref cM) = some false)
    (sub_m_s : PySem.W.subIn K (.ref cM) (.ref cS) = some true)
    (sub_m_p : PySem.W.subIn K (.ref cM) (.ref cP) = some false)
    (sub_m_k : PySem.W.subIn K (.ref cM) (.ref cK) = some false)
    (sub_m_d : PySem.W.subIn K (.ref cM) (.ref cD) = some false)
    (ne_s_p : cS ≠ cP)
    (ne_s_k : cS ≠ cK)
    (ne_s_d : cS ≠ cD)
    (ne_s_m : cS ≠ cM)
    (ne_p_k : cP ≠ cK)
    (ne_p_d : cP ≠ cD)
    (ne_p_m : cP ≠ cM)
    (ne_k_d : cK ≠ cD)
    (ne_k_m : cK ≠ cM)
    (ne_d_m : cD ≠ cM)
    (z_len : PySem.W.nsIn K mainGlobals "len" = some none)
    (z_sorted : PySem.W.nsIn K mainGlobals "sorted" = some none)
    (z_set : PySem.W.nsIn K mainGlobals "set" = some none)
    (z_range : PySem.W.nsIn K mainGlobals "range" = some none)
    (z_list : PySem.W.nsIn K mainGlobals "list" = some none)
    (z_tuple : PySem.W.nsIn K mainGlobals "tuple" = some none)
    (z_isinstance : PySem.W.nsIn K mainGlobals "isinstance" = some none)
    : ∃ fd : FuncData, (∀ (s : Shared) (v : Value), BindsTo s fd ⟨[v], []⟩ [("_law_script", v)]) ∧ ∀ base : Heap, K.In base → base.Ns mainGlobals mg → FnOk l.prog w K mg base CX0 6 fa fd ["_law_script"] (spLaw K) := by
  have e := hfa.symm.trans (PySem.W.mg_of X G at_lLaw)
  cases e
  let A : Ad := { cS := cS, cP := cP, cN := cN, cK := cK, cD := cD, cM := cM, iS := iS, slS := slS, toS := toS, anS := anS, row := row, lea := lea, own := own, iP := iP, slP := slP, anP := anP, acP := acP, iN := iN, toN := toN, acK := acK, iD := iD, acD := acD, iM := iM, slM := slM, anM := anM, acM := acM, lCell := lCell, lStr := lStr, lPen := lPen, lSlot := lSlot, lNames := lNames, lAct := lAct, lMade := lMade, lDue := lDue, lTold := lTold, lKinds := lKinds }
  have D_iS : DefAt K "__init__" "Stroke.__init__" sIS ["self", "name", "time"] iS := ⟨_, fun_mk (st := sIS) l_iS c_iS k_iS, (fun_mk (st := sIS) l_iS c_iS k_iS).binds (ps := ["self", "name", "time"]) fun _ _ _ _ _ _ us hl => match us, hl with | [_, _, _], _ => rfl⟩
  have D_slS : DefAt K "slots" "Stroke.slots" sSlS ["self"] slS := ⟨_, fun_mk (st := sSlS) l_slS c_slS k_slS, (fun_mk (st := sSlS) l_slS c_slS k_slS).binds (ps := ["self"]) fun _ _ _ _ _ _ us hl => match us, hl with | [_], _ => rfl⟩
  have D_toS : DefAt K "touched" "Stroke.touched" sToS ["self"] toS := ⟨_, fun_mk (st := sToS) l_toS c_toS k_toS, (fun_mk (st := sToS) l_toS c_toS k_toS).binds (ps := ["self"]) fun _ _ _ _ _ _ us hl => match us, hl with | [_], _ => rfl⟩
  have D_anS : DefAt K "anchors" "Stroke.anchors" sAnS ["self"] anS := ⟨_, fun_mk (st := sAnS) l_anS c_anS k_anS, (fun_mk (st := sAnS) l_anS c_anS k_anS).binds (ps := ["self"]) fun _ _ _ _ _ _ us hl => match us, hl with | [_], _ => rfl⟩
  have D_row : DefAt K "row" "Stroke.row" sRow ["self"] row := ⟨_, fun_mk (st := sRow) l_row c_row k_row, (fun_mk (st := sRow) l_row c_row k_row).binds (ps := ["self"]) fun _ _ _ _ _ _ us hl => match us, hl with | [_], _ => rfl⟩
  have D_lea : DefAt K "leans" "Stroke.leans" sLea ["self"] lea := ⟨_, fun_mk (st := sLea) l_lea c_lea k_lea, (fun_mk (st := sLea) l_lea c_lea k_lea).binds (ps := ["self"]) fun _ _ _ _ _ _ us hl => match us, hl with | [_], _ => rfl⟩
  have D_own : DefAt K "own_slots" "Stroke.own_slots" sOwn ["self", "many"] own := ⟨_, fun_mk (st := sOwn) l_own c_own k_own, (fun_mk (st := sOwn) l_own c_own k_own).binds (ps := ["self", "many"]) fun _ _ _ _ _ _ us hl => match us, hl with | [_, _], _ => rfl⟩
  have D_iP : DefAt K "__init__" "Put.__init__" sIP ["self", "name", "time", "anchor", "signs"] iP := ⟨_, fun_mk (st := sIP) l_iP c_iP k_iP, (fun_mk (st := sIP) l_iP c_iP k_iP).binds (ps := ["self", "name", "time", "anchor", "signs"]) fun _ _ _ _ _ _ us hl => match us, hl with | [_, _, _, _, _], _ => rfl⟩
  have D_slP : DefAt K "slots" "Put.slots" sSlP ["self"] slP := ⟨_, fun_mk (st := sSlP) l_slP c_slP k_slP, (fun_mk (st := sSlP) l_slP c_slP k_slP).binds (ps := ["self"]) fun _ _ _ _ _ _ us hl => match us, hl with | [_], _ => rfl⟩
  have D_anP : DefAt K "anchors" "Put.anchors" sAnP ["self"] anP := ⟨_, fun_mk (st := sAnP) l_anP c_anP k_anP, (fun_mk (st := sAnP) l_anP c_anP k_anP).binds (ps := ["self"]) fun _ _ _ _ _ _ us hl => match us, hl with | [_], _ => rfl⟩
  have D_acP : DefAt K "act" "Put.act" sAcP ["self"] acP := ⟨_, fun_mk (st := sAcP) l_acP c_acP k_acP, (fun_mk (st := sAcP) l_acP c_acP k_acP).binds (ps := ["self"]) fun _ _ _ _ _ _ us hl => match us, hl with | [_], _ => rfl⟩
  have D_iN : DefAt K "__init__" "Naming.__init__" sIN ["self", "name", "time", "names"] iN := ⟨_, fun_mk (st := sIN) l_iN c_iN k_iN, (fun_mk (st := sIN) l_iN c_iN k_iN).binds (ps := ["self", "name", "time", "names"]) fun _ _ _ _ _ _ us hl => match us, hl with | [_, _, _, _], _ => rfl⟩
  have D_toN : DefAt K "touched" "Naming.touched" sToN ["self"] toN := ⟨_, fun_mk (st := sToN) l_toN c_toN k_toN, (fun_mk (st := sToN) l_toN c_toN k_toN).binds (ps := ["self"]) fun _ _ _ _ _ _ us hl => match us, hl with | [_], _ => rfl⟩
  have D_acK : DefAt K "act" "Strike.act" sAcK ["self"] acK := ⟨_, fun_mk (st := sAcK) l_acK c_acK k_acK, (fun_mk (st := sAcK) l_acK c_acK k_acK).binds (ps := ["self"]) fun _ _ _ _ _ _ us hl => match us, hl with | [_], _ => rfl⟩
  have D_iD : DefAt K "__init__" "Dress.__init__" sID ["self", "name", "time", "names", "word"] iD := ⟨_, fun_mk (st := sID) l_iD c_iD k_iD, (fun_mk (st := sID) l_iD c_iD k_iD).binds (ps := ["self", "name", "time", "names", "word"]) fun _ _ _ _ _ _ us hl => match us, hl with | [_, _, _, _, _], _ => rfl⟩
  have D_acD : DefAt K "act" "Dress.act" sAcD ["self"] acD := ⟨_, fun_mk (st := sAcD) l_acD c_acD k_acD, (fun_mk (st := sAcD) l_acD c_acD k_acD).binds (ps := ["self"]) fun _ _ _ _ _ _ us hl => match us, hl with | [_], _ => rfl⟩
  have D_iM : DefAt K "__init__" "Move.__init__" sIM ["self", "name", "time", "names", "anchor"] iM := ⟨_, fun_mk (st := sIM) l_iM c_iM k_iM, (fun_mk (st := sIM) l_iM c_iM k_iM).binds (ps := ["self", "name", "time", "names", "anchor"]) fun _ _ _ _ _ _ us hl => match us, hl with | [_, _, _, _, _], _ => rfl⟩
  have D_slM : DefAt K "slots" "Move.slots" sSlM ["self"] slM := ⟨_, fun_mk (st := sSlM) l_slM c_slM k_slM, (fun_mk (st := sSlM) l_slM c_slM k_slM).binds (ps := ["self"]) fun _ _ _ _ _ _ us hl => match us, hl with | [_], _ => rfl⟩
  have D_anM : DefAt K "anchors" "Move.anchors" sAnM ["self"] anM := ⟨_, fun_mk (st := sAnM) l_anM c_anM k_anM, (fun_mk (st := sAnM) l_anM c_anM k_anM).binds (ps := ["self"]) fun _ _ _ _ _ _ us hl => match us, hl with | [_], _ => rfl⟩
  have D_acM : DefAt K "act" "Move.act" sAcM ["self"] acM := ⟨_, fun_mk (st := sAcM) l_acM c_acM k_acM, (fun_mk (st := sAcM) l_acM c_acM k_acM).binds (ps := ["self"]) fun _ _ _ _ _ _ us hl => match us, hl with | [_], _ => rfl⟩
  have D_lCell : DefAt K "_law_cell_at" "_law_cell_at" sLCell ["_law_script", "_law_k"] lCell := ⟨_, fun_mk (st := sLCell) l_lCell c_lCell k_lCell, (fun_mk (st := sLCell) l_lCell c_lCell k_lCell).binds (ps := ["_law_script", "_law_k"]) fun _ _ _ _ _ _ us hl => match us, hl with | [_, _], _ => rfl⟩
  have D_lStr : DefAt K "_law_stream" "_law_stream" sLStr ["_law_cell", "_law_many"] lStr := ⟨_, fun_mk (st := sLStr) l_lStr c_lStr k_lStr, (fun_mk (st := sLStr) l_lStr c_lStr k_lStr).binds (ps := ["_law_cell", "_law_many"]) fun _ _ _ _ _ _ us hl => match us, hl with | [_, _], _ => rfl⟩
  have D_lPen : DefAt K "_law_pen" "_law_pen" sLPen ["_law_x"] lPen := ⟨_, fun_mk (st := sLPen) l_lPen c_lPen k_lPen, (fun_mk (st := sLPen) l_lPen c_lPen k_lPen).binds (ps := ["_law_x"]) fun _ _ _ _ _ _ us hl => match us, hl with | [_], _ => rfl⟩
  have D_lSlot : DefAt K "_law_slot" "_law_slot" sLSlot ["_law_x", "_law_y"] lSlot := ⟨_, fun_mk (st := sLSlot) l_lSlot c_lSlot k_lSlot, (fun_mk (st := sLSlot) l_lSlot c_lSlot k_lSlot).binds (ps := ["_law_x", "_law_y"]) fun _ _ _ _ _ _ us hl => match us, hl with | [_, _], _ => rfl⟩
  have D_lNames : DefAt K "_law_names" "_law_names" sLNames ["_law_xs"] lNames := ⟨_, fun_mk (st := sLNames) l_lNames c_lNames k_lNames, (fun_mk (st := sLNames) l_lNames c_lNames k_lNames).binds (ps := ["_law_xs"]) fun _ _ _ _ _ _ us hl => match us, hl with | [_], _ => rfl⟩
  have D_lAct : DefAt K "_law_act" "_law_act" sLAct ["_law_xs"] lAct := ⟨_, fun_mk (st := sLAct) l_lAct c_lAct k_lAct, (fun_mk (st := sLAct) l_lAct c_lAct k_lAct).binds (ps := ["_law_xs"]) fun _ _ _ _ _ _ us hl => match us, hl with | [_], _ => rfl⟩
  have D_lMade : DefAt K "_law_made" "_law_made" sLMade ["_law_name", "_law_time", "_law_act_here"] lMade := ⟨_, fun_mk (st := sLMade) l_lMade c_lMade k_lMade, (fun_mk (st := sLMade) l_lMade c_lMade k_lMade).binds (ps := ["_law_name", "_law_time", "_law_act_here"]) fun _ _ _ _ _ _ us hl => match us, hl with | [_, _, _], _ => rfl⟩
  have D_lDue : DefAt K "_law_due" "_law_due" sLDue ["_law_name", "_law_act_here"] lDue := ⟨_, fun_mk (st := sLDue) l_lDue c_lDue k_lDue, (fun_mk (st := sLDue) l_lDue c_lDue k_lDue).binds (ps := ["_law_name", "_law_act_here"]) fun _ _ _ _ _ _ us hl => match us, hl with | [_, _], _ => rfl⟩
  have D_lTold : DefAt K "_law_told" "_law_told" sLTold ["_law_stroke"] lTold := ⟨_, fun_mk (st := sLTold) l_lTold c_lTold k_lTold, (fun_mk (st := sLTold) l_lTold c_lTold k_lTold).binds (ps := ["_law_stroke"]) fun _ _ _ _ _ _ us hl => match us, hl with | [_], _ => rfl⟩
  have D_lKinds : DefAt K "_law_kinds" "_law_kinds" sLKinds ["_law_stroke", "_law_word"] lKinds := ⟨_, fun_mk (st := sLKinds) l_lKinds c_lKinds k_lKinds, (fun_mk (st := sLKinds) l_lKinds c_lKinds k_lKinds).binds (ps := ["_law_stroke", "_law_word"]) fun _ _ _ _ _ _ us hl => match us, hl with | [_, _], _ => rfl⟩
  have F_s : ClF K cS := ⟨⟨pg_s, hd_s, po_s, sa_s⟩, mk_s, kc_s, n_s_name, n_s_time, n_s_anchor, n_s_signs, n_s_names, n_s_word, ca_s, ob_s, ic_s, ty_s⟩
  have F_p : ClF K cP := ⟨⟨pg_p, hd_p, po_p, sa_p⟩, mk_p, kc_p, n_p_name, n_p_time, n_p_anchor, n_p_signs, n_p_names, n_p_word, ca_p, ob_p, ic_p, ty_p⟩
  have F_k : ClF K cK := ⟨⟨pg_k, hd_k, po_k, sa_k⟩, mk_k, kc_k, n_k_name, n_k_time, n_k_anchor, n_k_signs, n_k_names, n_k_word, ca_k, ob_k, ic_k, ty_k⟩
  have F_d : ClF K cD := ⟨⟨pg_d, hd_d, po_d, sa_d⟩, mk_d, kc_d, n_d_name, n_d_time, n_d_anchor, n_d_signs, n_d_names, n_d_word, ca_d, ob_d, ic_d, ty_d⟩
  have F_m : ClF K cM := ⟨⟨pg_m, hd_m, po_m, sa_m⟩, mk_m, kc_m, n_m_name, n_m_time, n_m_anchor, n_m_signs, n_m_names, n_m_word, ca_m, ob_m, ic_m, ty_m⟩
  have T : Txt K mg A := {
    d_iS := D_iS
    d_slS := D_slS
    d_toS := D_toS
    d_anS := D_anS
    d_row := D_row
    d_lea := D_lea
    d_own := D_own
    d_iP := D_iP
    d_slP := D_slP
    d_anP := D_anP
    d_acP := D_acP
    d_iN := D_iN
    d_toN := D_toN
    d_acK := D_acK
    d_iD := D_iD
    d_acD := D_acD
    d_iM := D_iM
    d_slM := D_slM
    d_anM := D_anM
    d_acM := D_acM
    d_lCell := D_lCell
    g_lCell := PySem.W.mg_of X G at_lCell
    d_lStr := D_lStr
    g_lStr := PySem.W.mg_of X G at_lStr
    d_lPen := D_lPen
    g_lPen := PySem.W.mg_of X G at_lPen
    d_lSlot := D_lSlot
    g_lSlot := PySem.W.mg_of X G at_lSlot
    d_lNames := D_lNames
    g_lNames := PySem.W.mg_of X G at_lNames
    d_lAct := D_lAct
    g_lAct := PySem.W.mg_of X G at_lAct
    d_lMade := D_lMade
    g_lMade := PySem.W.mg_of X G at_lMade
    d_lDue := D_lDue
    g_lDue := PySem.W.mg_of X G at_lDue
    d_lTold := D_lTold
    g_lTold := PySem.W.mg_of X G at_lTold
    d_lKinds := D_lKinds
    g_lKinds := PySem.W.mg_of X G at_lKinds
    g_cS := PySem.W.mg_of X G ns_cS
    g_cP := PySem.W.mg_of X G ns_cP
    g_cN := PySem.W.mg_of X G ns_cN
    g_cK := PySem.W.mg_of X G ns_cK
    g_cD := PySem.W.mg_of X G ns_cD
    g_cM := PySem.W.mg_of X G ns_cM
    cf := fun k => match k with
      | .s => F_s
      | .p => F_p
      | .k => F_k
      | .d => F_d
      | .m => F_m
    m_init := fun k => match k with
      | .s => ⟨at_iS, i_iS, k_iS⟩
      | .p => ⟨at_iP, i_iP, k_iP⟩
      | .k => ⟨at_k_init, i_iN, k_iN⟩
      | .d => ⟨at_iD, i_iD, k_iD⟩
      | .m => ⟨at_iM, i_iM, k_iM⟩
    m_slots := fun k => match k with
      | .s => ⟨at_slS, i_slS, k_slS⟩
      | .p => ⟨at_slP, i_slP, k_slP⟩
      | .k => ⟨at_k_slots, i_slS, k_slS⟩
      | .d => ⟨at_d_slots, i_slS, k_slS⟩
      | .m => ⟨at_slM, i_slM, k_slM⟩
    m_touched := fun k => match k with
      | .s => ⟨at_toS, i_toS, k_toS⟩
      | .p => ⟨at_p_touched, i_toS, k_toS⟩
      | .k => ⟨at_k_touched, i_toN, k_toN⟩
      | .d => ⟨at_d_touched, i_toN, k_toN⟩
      | .m => ⟨at_m_touched, i_toN, k_toN⟩
    m_anchors := fun k => match k with
      | .s => ⟨at_anS, i_anS, k_anS⟩
      | .p => ⟨at_anP, i_anP, k_anP⟩
      | .k => ⟨at_k_anchors, i_anS, k_anS⟩
      | .d => ⟨at_d_anchors, i_anS, k_anS⟩
      | .m => ⟨at_anM, i_anM, k_anM⟩
    m_row := fun k => match k with
      | .s => ⟨at_row, i_row, k_row⟩
      | .p => ⟨at_p_row, i_row, k_row⟩
      | .k => ⟨at_k_row, i_row, k_row⟩
      | .d => ⟨at_d_row, i_row, k_row⟩
      | .m => ⟨at_m_row, i_row, k_row⟩
    m_leans := fun k => match k with
      | .s => ⟨at_lea, i_lea, k_lea⟩
      | .p => ⟨at_p_leans, i_lea, k_lea⟩
      | .k => ⟨at_k_leans, i_lea, k_lea⟩
      | .d => ⟨at_d_leans, i_lea, k_lea⟩
      | .m => ⟨at_m_leans, i_lea, k_lea⟩
    m_own_slots := fun k => match k with
      | .s => ⟨at_own, i_own, k_own⟩
      | .p => ⟨at_p_own_slots, i_own, k_own⟩
      | .k => ⟨at_k_own_slots, i_own, k_own⟩
      | .d => ⟨at_d_own_slots, i_own, k_own⟩
      | .m => ⟨at_m_own_slots, i_own, k_own⟩
    m_act := fun k hk => match k, hk with
      | .s, hk => absurd rfl hk
      | .p, _ => ⟨at_acP, i_acP, k_acP⟩
      | .k, _ => ⟨at_acK, i_acK, k_acK⟩
      | .d, _ => ⟨at_acD, i_acD, k_acD⟩
      | .m, _ => ⟨at_acM, i_acM, k_acM⟩
    oS := ⟨⟨rd_S, ga_S⟩, fc_S⟩
    oN := ⟨⟨rd_N, ga_N⟩, fc_N⟩
    cg := cg
    ct := ct
    sub := fun a b hab ha => match a, b, hab, ha with
      | .s, _, _, ha => absurd rfl ha
      | .p, .s, _, _ => sub_p_s
      | .p, .p, hab, _ => absurd rfl hab
      | .p, .k, _, _ => sub_p_k
      | .p, .d, _, _ => sub_p_d
      | .p, .m, _, _ => sub_p_m
      | .k, .s, _, _ => sub_k_s
      | .k, .p, _, _ => sub_k_p
      | .k, .k, hab, _ => absurd rfl hab
      | .k, .d, _, _ => sub_k_d
      | .k, .m, _, _ => sub_k_m
      | .d, .s, _, _ => sub_d_s
      | .d, .p, _, _ => sub_d_p
      | .d, .k, _, _ => sub_d_k
      | .d, .d, hab, _ => absurd rfl hab
      | .d, .m, _, _ => sub_d_m
      | .m, .s, _, _ => sub_m_s
      | .m, .p, _, _ => sub_m_p
      | .m, .k, _, _ => sub_m_k
      | .m, .d, _, _ => sub_m_d
      | .m, .m, hab, _ => absurd rfl hab
    ne := fun a b hab => match a, b, hab with
      | .s, .s, hab => absurd rfl hab
      | .s, .p, _ => ne_s_p
      | .s, .k, _ => ne_s_k
      | .s, .d, _ => ne_s_d
      | .s, .m, _ => ne_s_m
      | .p, .s, _ => fun e => ne_s_p e.symm
      | .p, .p, hab => absurd rfl hab
      | .p, .k, _ => ne_p_k
      | .p, .d, _ => ne_p_d
      | .p, .m, _ => ne_p_m
      | .k, .s, _ => fun e => ne_s_k e.symm
      | .k, .p, _ => fun e => ne_p_k e.symm
      | .k, .k, hab => absurd rfl hab
      | .k, .d, _ => ne_k_d
      | .k, .m, _ => ne_k_m
      | .d, .s, _ => fun e => ne_s_d e.symm
      | .d, .p, _ => fun e => ne_p_d e.symm
      | .d, .k, _ => fun e => ne_k_d e.symm
      | .d, .d, hab => absurd rfl hab
      | .d, .m, _ => ne_d_m
      | .m, .s, _ => fun e => ne_s_m e.symm
      | .m, .p, _ => fun e => ne_p_m e.symm
      | .m, .k, _ => fun e => ne_k_m e.symm
      | .m, .d, _ => fun e => ne_d_m e.symm
      | .m, .m, hab => absurd rfl hab
    z_len := PySem.W.mg_none_of X G z_len
    z_sorted := PySem.W.mg_none_of X G z_sorted
    z_set := PySem.W.mg_none_of X G z_set
    z_range := PySem.W.mg_none_of X G z_range
    z_list := PySem.W.mg_none_of X G z_list
    z_tuple := PySem.W.mg_none_of X G z_tuple
    z_isinstance := PySem.W.mg_none_of X G z_isinstance
  }
  exact ⟨PySem.W.fnOf "law" "law" (defArgs sLaw) (defBody sLaw) (defScope sLaw) .none kV_lLaw dc_lLaw pm_lLaw an_lLaw cd_lLaw ct_lLaw, fun s v => .of_eq rfl, fun base _ _ => ok_law T (fun_mk (st := sLaw) l_lLaw c_lLaw k_lLaw)⟩
end Rq
open PySem PySem.W PyProof.Rows in
set_option maxRecDepth 100000 in
set_option maxHeartbeats 0 in
theorem PySem.Challenge.cw_redquill_k02_what_a_stroke_makes_holds : PySem.Challenge.rw_redquill_k02_what_a_stroke_makes.Holds := by
  w_on; o_law; k_head; (case hw => w_witness2)
  k_fill
  refine L2.walk_of (l := PySem.Challenge.rw_redquill_k02_what_a_stroke_makes) (n := 63) (k := 6) (x := "_law_script") (CX := fun _ => L2.CX0) (sp := fun w => Rq.spLaw _) rfl (by decide) rfl ⟨rfl, by decide, by decide⟩ (fun w h Y => PySem.W.kIn_of Y) ?F (fun _ _ a ns hl _ hS => ⟨a, ns, rfl, hS, hl, fun _ => rfl⟩) (fun _ _ _ _ _ h => h)
  case F =>
    intro w mg fa h KX G hmg
    refine' Rq.all_mk KX G hmg ?ns_cS ?ns_cP ?ns_cN ?ns_cK ?ns_cD ?ns_cM ?at_iS ?l_iS ?c_iS ?k_iS ?i_iS ?at_slS ?l_slS ?c_slS ?k_slS ?i_slS ?at_toS ?l_toS ?c_toS ?k_toS ?i_toS ?at_anS ?l_anS ?c_anS ?k_anS ?i_anS ?at_row ?l_row ?c_row ?k_row ?i_row ?at_lea ?l_lea ?c_lea ?k_lea ?i_lea ?at_own ?l_own ?c_own ?k_own ?i_own ?at_iP ?l_iP ?c_iP ?k_iP ?i_iP ?at_slP ?l_slP ?c_slP ?k_slP ?i_slP ?at_anP ?l_anP ?c_anP ?k_anP ?i_anP ?at_acP ?l_acP ?c_acP ?k_acP ?i_acP ?at_iN ?l_iN ?c_iN ?k_iN ?i_iN ?at_toN ?l_toN ?c_toN ?k_toN ?i_toN ?at_acK ?l_acK ?c_acK ?k_acK ?i_acK ?at_iD ?l_iD ?c_iD ?k_iD ?i_iD ?at_acD ?l_acD ?c_acD ?k_acD ?i_acD ?at_iM ?l_iM ?c_iM ?k_iM ?i_iM ?at_slM ?l_slM ?c_slM ?k_slM ?i_slM ?at_anM ?l_anM ?c_anM ?k_anM ?i_anM ?at_acM ?l_acM ?c_acM ?k_acM ?i_acM ?at_lCell ?l_lCell ?c_lCell ?k_lCell ?at_lStr ?l_lStr ?c_lStr ?k_lStr ?at_lPen ?l_lPen ?c_lPen ?k_lPen ?at_lSlot ?l_lSlot ?c_lSlot ?k_lSlot ?at_lNames ?l_lNames ?c_lNames ?k_lNames ?at_lAct ?l_lAct ?c_lAct ?k_lAct ?at_lMade ?l_lMade ?c_lMade ?k_lMade ?at_lDue ?l_lDue ?c_lDue ?k_lDue ?at_lTold ?l_lTold ?c_lTold ?k_lTold ?at_lKinds ?l_lKinds ?c_lKinds ?k_lKinds ?at_lLaw ?l_lLaw ?c_lLaw ?k_lLaw ?pg_s ?hd_s ?po_s ?sa_s ?mk_s ?kc_s ?n_s_name ?n_s_time ?n_s_anchor ?n_s_signs ?n_s_names ?n_s_word ?ca_s ?ob_s ?ic_s ?ty_s ?at_p_touched ?at_p_row ?at_p_leans ?at_p_own_slots ?pg_p ?hd_p ?po_p ?sa_p ?mk_p ?kc_p ?n_p_name ?n_p_time ?n_p_anchor ?n_p_signs ?n_p_names ?n_p_word ?ca_p ?ob_p ?ic_p ?ty_p ?at_k_init ?at_k_slots ?at_k_touched ?at_k_anchors ?at_k_row ?at_k_leans ?at_k_own_slots ?pg_k ?hd_k ?po_k ?sa_k ?mk_k ?kc_k ?n_k_name ?n_k_time ?n_k_anchor ?n_k_signs ?n_k_names ?n_k_word ?ca_k ?ob_k ?ic_k ?ty_k ?at_d_slots ?at_d_touched ?at_d_anchors ?at_d_row ?at_d_leans ?at_d_own_slots ?pg_d ?hd_d ?po_d ?sa_d ?mk_d ?kc_d ?n_d_name ?n_d_time ?n_d_anchor ?n_d_signs ?n_d_names ?n_d_word ?ca_d ?ob_d ?ic_d ?ty_d ?at_m_touched ?at_m_row ?at_m_leans ?at_m_own_slots ?pg_m ?hd_m ?po_m ?sa_m ?mk_m ?kc_m ?n_m_name ?n_m_time ?n_m_anchor ?n_m_signs ?n_m_names ?n_m_word ?ca_m ?ob_m ?ic_m ?ty_m ?rd_S ?ga_S ?fc_S ?rd_N ?ga_N ?fc_N ?cg ?ct ?sub_p_s ?sub_p_k ?sub_p_d ?sub_p_m ?sub_k_s ?sub_k_p ?sub_k_d ?sub_k_m ?sub_d_s ?sub_d_p ?sub_d_k ?sub_d_m ?sub_m_s ?sub_m_p ?sub_m_k ?sub_m_d ?ne_s_p ?ne_s_k ?ne_s_d ?ne_s_m ?ne_p_k ?ne_p_d ?ne_p_m ?ne_k_d ?ne_k_m ?ne_d_m ?z_len ?z_sorted ?z_set ?z_range ?z_list ?z_tuple ?z_isinstance
    (case ns_cS => k_is)
    (case ns_cP => k_is)
    (case ns_cN => k_is)
    (case ns_cK => k_is)
    (case ns_cD => k_is)
    (case ns_cM => k_is)
    (case at_iS => k_is)
    (case l_iS => k_is)
    (case c_iS => k_is)
    (case k_iS => k_is)
    (case i_iS => k_is)
    (case at_slS => k_is)
    (case l_slS => k_is)
    (case c_slS => k_is)
    (case k_slS => k_is)
    (case i_slS => k_is)
    (case at_toS => k_is)
    (case l_toS => k_is)
    (case c_toS => k_is)
    (case k_toS => k_is)
    (case i_toS => k_is)
    (case at_anS => k_is)
    (case l_anS => k_is)
    (case c_anS => k_is)
    (case k_anS => k_is)
    (case i_anS => k_is)
    (case at_row => k_is)
    (case l_row => k_is)
    (case c_row => k_is)
    (case k_row => k_is)
    (case i_row => k_is)
    (case at_lea => k_is)
    (case l_lea => k_is)
    (case c_lea => k_is)
    (case k_lea => k_is)
    (case i_lea => k_is)
    (case at_own => k_is)
    (case l_own => k_is)
    (case c_own => k_is)
    (case k_own => k_is)
    (case i_own => k_is)
    (case at_iP => k_is)
    (case l_iP => k_is)
    (case c_iP => k_is)
    (case k_iP => k_is)
    (case i_iP => k_is)
    (case at_slP => k_is)
    (case l_slP => k_is)
    (case c_slP => k_is)
    (case k_slP => k_is)
    (case i_slP => k_is)
    (case at_anP => k_is)
    (case l_anP => k_is)
    (case c_anP => k_is)
    (case k_anP => k_is)
    (case i_anP => k_is)
    (case at_acP => k_is)
    (case l_acP => k_is)
    (case c_acP => k_is)
    (case k_acP => k_is)
    (case i_acP => k_is)
    (case at_iN => k_is)
    (case l_iN => k_is)
    (case c_iN => k_is)
    (case k_iN => k_is)
    (case i_iN => k_is)
    (case at_toN => k_is)
    (case l_toN => k_is)
    (case c_toN => k_is)
    (case k_toN => k_is)
    (case i_toN => k_is)
    (case at_acK => k_is)
    (case l_acK => k_is)
    (case c_acK => k_is)
    (case k_acK => k_is)
    (case i_acK => k_is)
    (case at_iD => k_is)
    (case l_iD => k_is)
    (case c_iD => k_is)
    (case k_iD => k_is)
    (case i_iD => k_is)
    (case at_acD => k_is)
    (case l_acD => k_is)
    (case c_acD => k_is)
    (case k_acD => k_is)
    (case i_acD => k_is)
    (case at_iM => k_is)
    (case l_iM => k_is)
    (case c_iM => k_is)
    (case k_iM => k_is)
    (case i_iM => k_is)
    (case at_slM => k_is)
    (case l_slM => k_is)
    (case c_slM => k_is)
    (case k_slM => k_is)
    (case i_slM => k_is)
    (case at_anM => k_is)
    (case l_anM => k_is)
    (case c_anM => k_is)
    (case k_anM => k_is)
    (case i_anM => k_is)
    (case at_acM => k_is)
    (case l_acM => k_is)
    (case c_acM => k_is)
    (case k_acM => k_is)
    (case i_acM => k_is)
    (case at_lCell => k_is)
    (case l_lCell => k_is)
    (case c_lCell => k_is)
    (case k_lCell => k_is)
    (case at_lStr => k_is)
    (case l_lStr => k_is)
    (case c_lStr => k_is)
    (case k_lStr => k_is)
    (case at_lPen => k_is)
    (case l_lPen => k_is)
    (case c_lPen => k_is)
    (case k_lPen => k_is)
    (case at_lSlot => k_is)
    (case l_lSlot => k_is)
    (case c_lSlot => k_is)
    (case k_lSlot => k_is)
    (case at_lNames => k_is)
    (case l_lNames => k_is)
    (case c_lNames => k_is)
    (case k_lNames => k_is)
    (case at_lAct => k_is)
    (case l_lAct => k_is)
    (case c_lAct => k_is)
    (case k_lAct => k_is)
    (case at_lMade => k_is)
    (case l_lMade => k_is)
    (case c_lMade => k_is)
    (case k_lMade => k_is)
    (case at_lDue => k_is)
    (case l_lDue => k_is)
    (case c_lDue => k_is)
    (case k_lDue => k_is)
    (case at_lTold => k_is)
    (case l_lTold => k_is)
    (case c_lTold => k_is)
    (case k_lTold => k_is)
    (case at_lKinds => k_is)
    (case l_lKinds => k_is)
    (case c_lKinds => k_is)
    (case k_lKinds => k_is)
    (case at_lLaw => k_is)
    (case l_lLaw => k_is)
    (case c_lLaw => k_is)
    (case k_lLaw => k_is)
    (case pg_s => k_is)
    (case hd_s => k_is)
    (case po_s => k_is)
    (case sa_s => k_is)
    (case mk_s => k_is)
    (case kc_s => k_is)
    (case n_s_name => k_is)
    (case n_s_time => k_is)
    (case n_s_anchor => k_is)
    (case n_s_signs => k_is)
    (case n_s_names => k_is)
    (case n_s_word => k_is)
    (case ca_s => k_is)
    (case ob_s => k_is)
    (case ic_s => k_is)
    (case ty_s => k_is)
    (case at_p_touched => k_is)
    (case at_p_row => k_is)
    (case at_p_leans => k_is)
    (case at_p_own_slots => k_is)
    (case pg_p => k_is)
    (case hd_p => k_is)
    (case po_p => k_is)
    (case sa_p => k_is)
    (case mk_p => k_is)
    (case kc_p => k_is)
    (case n_p_name => k_is)
    (case n_p_time => k_is)
    (case n_p_anchor => k_is)
    (case n_p_signs => k_is)
    (case n_p_names => k_is)
    (case n_p_word => k_is)
    (case ca_p => k_is)
    (case ob_p => k_is)
    (case ic_p => k_is)
    (case ty_p => k_is)
    (case at_k_init => k_is)
    (case at_k_slots => k_is)
    (case at_k_touched => k_is)
    (case at_k_anchors => k_is)
    (case at_k_row => k_is)
    (case at_k_leans => k_is)
    (case at_k_own_slots => k_is)
    (case pg_k => k_is)
    (case hd_k => k_is)
    (case po_k => k_is)
    (case sa_k => k_is)
    (case mk_k => k_is)
    (case kc_k => k_is)
    (case n_k_name => k_is)
    (case n_k_time => k_is)
    (case n_k_anchor => k_is)
    (case n_k_signs => k_is)
    (case n_k_names => k_is)
    (case n_k_word => k_is)
    (case ca_k => k_is)
    (case ob_k => k_is)
    (case ic_k => k_is)
    (case ty_k => k_is)
    (case at_d_slots => k_is)
    (case at_d_touched => k_is)
    (case at_d_anchors => k_is)
    (case at_d_row => k_is)
    (case at_d_leans => k_is)
    (case at_d_own_slots => k_is)
    (case pg_d => k_is)
    (case hd_d => k_is)
    (case po_d => k_is)
    (case sa_d => k_is)
    (case mk_d => k_is)
    (case kc_d => k_is)
    (case n_d_name => k_is)
    (case n_d_time => k_is)
    (case n_d_anchor => k_is)
    (case n_d_signs => k_is)
    (case n_d_names => k_is)
    (case n_d_word => k_is)
    (case ca_d => k_is)
    (case ob_d => k_is)
    (case ic_d => k_is)
    (case ty_d => k_is)
    (case at_m_touched => k_is)
    (case at_m_row => k_is)
    (case at_m_leans => k_is)
    (case at_m_own_slots => k_is)
    (case pg_m => k_is)
    (case hd_m => k_is)
    (case po_m => k_is)
    (case sa_m => k_is)
    (case mk_m => k_is)
    (case kc_m => k_is)
    (case n_m_name => k_is)
    (case n_m_time => k_is)
    (case n_m_anchor => k_is)
    (case n_m_signs => k_is)
    (case n_m_names => k_is)
    (case n_m_word => k_is)
    (case ca_m => k_is)
    (case ob_m => k_is)
    (case ic_m => k_is)
    (case ty_m => k_is)
    (case rd_S => k_is)
    (case ga_S => k_is)
    (case fc_S => k_is)
    (case rd_N => k_is)
    (case ga_N => k_is)
    (case fc_N => k_is)
    (case cg => k_is)
    (case ct => k_is)
    (case sub_p_s => k_is)
    (case sub_p_k => k_is)
    (case sub_p_d => k_is)
    (case sub_p_m => k_is)
    (case sub_k_s => k_is)
    (case sub_k_p => k_is)
    (case sub_k_d => k_is)
    (case sub_k_m => k_is)
    (case sub_d_s => k_is)
    (case sub_d_p => k_is)
    (case sub_d_k => k_is)
    (case sub_d_m => k_is)
    (case sub_m_s => k_is)
    (case sub_m_p => k_is)
    (case sub_m_k => k_is)
    (case sub_m_d => k_is)
    (case ne_s_p => first | decide | (intro z; cases z))
    (case ne_s_k => first | decide | (intro z; cases z))
    (case ne_s_d => first | decide | (intro z; cases z))
    (case ne_s_m => first | decide | (intro z; cases z))
    (case ne_p_k => first | decide | (intro z; cases z))
    (case ne_p_d => first | decide | (intro z; cases z))
    (case ne_p_m => first | decide | (intro z; cases z))
    (case ne_k_d => first | decide | (intro z; cases z))
    (case ne_k_m => first | decide | (intro z; cases z))
    (case ne_d_m => first | decide | (intro z; cases z))
    (case z_len => k_is)
    (case z_sorted => k_is)
    (case z_set => k_is)
    (case z_range => k_is)
    (case z_list => k_is)
    (case z_tuple => k_is)
    (case z_isinstance => k_is)
