import PyProof.Rows.All
import HandS.TupSets
import HandS.Strs
import Wide.All
import OpenK.AllK
import Wide.FinOn
import HandS.ForMost
import HandS.ForExc
import HandS.TupAny
import HandS.TupMul
import HandS.Zip
import HandS.Conv
import HandS.IsInst
import HandS.SetKeys
import HandS.Flow
import HandS.Rev
import HandS.Deep
import HandS.NoneIn
import HandS.More
import HandS.Style
import KE.KDictZip
import KE.GoesZip
import KE.GoesMore
import KE.GoesEnum
import PyProof.DictUpdate
import HandS.Replace
import PySem.Challenge.RW_shelfwork_k40_clashes
set_option Elab.async false
set_option linter.all false
set_option maxRecDepth 100000
set_option maxHeartbeats 1000000
namespace DL.KS
open PySem PySem.Spec PyProof.Rows L2

structure Kd (P : Program) (w : World) (K : Type) [DecidableEq K] where
  holds : Heap → K → Value → Prop
  code : K → Int
  calm : Around → Prop
  also : SetTable → List Int → Prop
  one : ∀ {h : Heap} {x y : K} {v : Value}, holds h x v → holds h y v → x = y
  stay : ∀ {h h' : Heap} {k : K} {v : Value}, holds h k v → (∀ b o, h.get? b = some o → o.cls = .type "tuple" → h'.get? b = some o) → holds h' k v
variable {P : Program} {w : World} {K : Type} [DecidableEq K]
def Kd.row (κ : Kd P w K) (p : Value × K) : Int × Value := (κ.code p.2, p.1)
structure Holds (κ : Kd P w K) (h : Heap) (a : Addr) (L : List (Value × K)) (o : Obj) (es : Array (Int × Value)) (ep : Nat) (t : SetTable) : Prop where
  at_ : h.get? a = some o
  exact_ : o.ExactSet
  dat : o.data = .set es ep t
  rows : es.toList = L.map κ.row
  alone : (L.map Prod.snd).Nodup
  mem : ∀ p ∈ L, κ.holds h p.2 p.1
  fit : t.fits es.size = true
  up : Ris t.place.toList
  lead : w.params.followText "set-order" = true ∨ t.led = true
  few : L.length < 64
  also : κ.also t (L.map fun p => κ.code p.2)
def SetAt (κ : Kd P w K) (h : Heap) (a : Addr) (L : List (Value × K)) : Prop := ∃ o es ep t, Holds κ h a L o es ep t
def Takes (κ : Kd P w K) : Prop := ∀ {A : Around} {E : Value → Shared → Prop} {s : Shared} {a : Addr} {x : Value} {k : K} {L : List (Value × K)} {Q : Bool → Shared → Prop},
  κ.calm A → κ.holds s.heap k x → SetAt κ s.heap a L → (k ∉ L.map Prod.snd → L.length + 1 < 64) →
  (∀ b h' tk L', s.toks ≤ tk → Heap.SameBut a s.heap h' → SetAt κ h' a L' → (k ∈ L.map Prod.snd → L' = L) → (k ∉ L.map Prod.snd → L'.Perm ((x, k) :: L)) → Q b { s with heap := h', toks := tk }) →
  wpAny (model P w) A (setAdd a x) Q E s

theorem rows_len {κ : Kd P w K} {L : List (Value × K)} {es : Array (Int × Value)} (h : es.toList = L.map κ.row) : es.size = L.length := by
  rw [← Array.length_toList, h, List.length_map]
theorem rows_at {κ : Kd P w K} {L : List (Value × K)} {es : Array (Int × Value)} (h : es.toList = L.map κ.row) {i : Nat} {p : Value × K} (hp : L[i]? = some p) : es[i]? = some (κ.row p) := by
  rw [← Array.getElem?_toList, h, List.getElem?_map, hp]; rfl
theorem stay_set {κ : Kd P w K} {h h' : Heap} {a : Addr} {o : Obj} (ho : h.get? a = some o) (hx : o.ExactSet) (sb : Heap.SameBut a h h') {k : K} {v : Value} (hv : κ.holds h k v) : κ.holds h' k v :=
  κ.stay hv fun b u hu hc => by
    by_cases e : b = a
    · subst e
      obtain rfl : o = u := Option.some.inj (ho.symm.trans hu)
      have z : Value.type "set" = Value.type "tuple" := hx.1.symm.trans hc
      injection z with z
      exact absurd z (by decide)
    · exact (sb.2 b e).trans hu

abbrev TSk (P : Program) (w : World) := IsTupleKey (strKind P w)
theorem texts_shape {ks : List Str} {vs : List Value} (h : ItemsAre (strKind P w) ks vs) : ∀ v ∈ vs, ∃ x u, v = Value.str x u := by
  induction h with
  | nil => simp
  | @cons k v' ks vs h1 _ ih =>
    intro v hv
    rcases List.mem_cons.mp hv with rfl | hv
    · obtain ⟨u, e⟩ := Value.isStrOf_shape h1
      exact ⟨k, u, e⟩
    · exact ih v hv
theorem tsk_stay {h h' : Heap} {k : List Str} {b : Addr} (x : TSk P w h k b) (g : ∀ b o, h.get? b = some o → o.cls = .type "tuple" → h'.get? b = some o) : TSk P w h' k b := by
  obtain ⟨o, its, n, ho, hc, r⟩ := x
  exact ⟨o, its, n, g b o ho hc, hc, r⟩
def kT (P : Program) (w : World) : Kd P w (List Str) where
  holds h k v := ∃ b, v = .ref b ∧ TSk P w h k b
  code := tupleKeyHash (strKind P w)
  calm A := A.units < cLine
  also t hs := TabOk t hs ∧ hs.length * 5 < t.mask * 3
  one := fun ⟨b, e, x⟩ ⟨c, e2, y⟩ => by
    subst e
    injection e2 with e2
    subst e2
    exact x.inj y
  stay := fun ⟨b, e, x⟩ g => ⟨b, e, tsk_stay x g⟩

section
variable {A : Around} {E : Value → Shared → Prop} {s : Shared}
theorem stmt_text (n : Nat) (x : Str) (u : Tok) : ofAClassStatement n (.str x u) = pure false := by cases n <;> rfl
theorem byVal_text (n : Nat) (x : Str) (u : Tok) : hashByValue n (.str x u) = pure false := by cases n <;> rfl
theorem stmt_tup {k : List Str} {b : Addr} {Q : Bool → Shared → Prop} (hk : TSk P w s.heap k b) (h : Q false s) : wpAny (model P w) A (ofAClassStatement 8 (.ref b)) Q E s := by
  have ty := hk.typeIs
  obtain ⟨o, items, n, ho, _, hd, hi⟩ := hk
  unfold ofAClassStatement
  refine wpAny_bind (wpAny_typeOf ty ?_)
  dsimp only
  rw [show (("tuple" : String) == "tuple") = true from by decide]
  simp only [if_true, Bool.not_true, Bool.false_eq_true, if_false]
  try refine wpAny_bind (wpAny_pure ?_)
  try simp only [Bool.not_true, Bool.false_eq_true, if_false]
  show wpAny _ _ (seqItems? (.ref b) >>= _) _ _ s
  refine wpAny_bind (wpAny_seqItems ho hd ?_)
  dsimp only
  refine wpAny_bind ?_
  show wpAny _ _ (forIn items _ _) _ _ s
  rw [← Array.forIn_toList]
  refine wpAny_forIn_list _ (fun r q z => q.1 = none ∧ z = s ∧ ∀ v ∈ r, ∃ x u, v = Value.str x u) _ ?_ ?_ _ _ ⟨rfl, rfl, texts_shape hi⟩
  · rintro v r q z ⟨e, rfl, all⟩
    obtain ⟨x, u, rfl⟩ := all v List.mem_cons_self
    rw [stmt_text]
    refine wpAny_bind (wpAny_pure ?_)
    simp only [Bool.false_eq_true, if_false]
    exact wpAny_pure ⟨rfl, rfl, fun y hy => all y (List.mem_cons_of_mem _ hy)⟩
  · rintro ⟨q1, q2⟩ z ⟨e, rfl, _⟩
    obtain rfl : q1 = none := e
    exact wpAny_pure h
theorem byVal_tup {k : List Str} {b : Addr} {Q : Bool → Shared → Prop} (hk : TSk P w s.heap k b) (h : ∀ c, Q c s) : wpAny (model P w) A (hashByValue 8 (.ref b)) Q E s := by
  have ty := hk.typeIs
  obtain ⟨o, items, n, ho, _, hd, hi⟩ := hk
  unfold hashByValue
  refine wpAny_bind (wpAny_specialOf ty F.slot_tuple_hash.lookup ?_)
  show wpAny _ _ (seqItems? (.ref b) >>= _) _ _ s
  refine wpAny_bind (wpAny_seqItems ho hd ?_)
  refine wpAny_bind ?_
  show wpAny _ _ (forIn items _ _) _ _ s
  rw [← Array.forIn_toList]
  have all := texts_shape hi
  cases hl : items.toList with
  | nil =>
    rw [List.forIn_nil]
    refine wpAny_pure ?_
    exact wpAny_pure (h true)
  | cons v r =>
    obtain ⟨x, u, rfl⟩ := all v (by rw [hl]; exact List.mem_cons_self)
    rw [List.forIn_cons, byVal_text]
    refine wpAny_bind (wpAny_bind (wpAny_pure ?_))
    simp only [Bool.not_false, if_true]
    refine wpAny_pure (wpAny_pure ?_)
    exact wpAny_pure (h false)
theorem unseen {k : List Str} {b : Addr} {Q : Bool → Shared → Prop} (hk : TSk P w s.heap k b) {ys : List Value} (hy : ∀ y ∈ ys, ∃ k', (kT P w).holds s.heap k' y) (h : Q false s) :
    wpAny (model P w) A (searchCouldBeSeen (.ref b) ys) Q E s := by
  unfold searchCouldBeSeen
  refine wpAny_bind ?_
  refine wpAny_forIn_list _ (fun r q z => q.1 = none ∧ z = s ∧ ∀ y ∈ r, ∃ k', (kT P w).holds s.heap k' y) _ ?_ ?_ _ _ ⟨rfl, rfl, hy⟩
  · rintro v r q z ⟨e, rfl, all⟩
    obtain ⟨k', c, rfl, hc⟩ := all v List.mem_cons_self
    have more : ∀ y ∈ r, ∃ k', (kT P w).holds z.heap k' y := fun y m => all y (List.mem_cons_of_mem _ m)
    dsimp only
    by_cases hv : (b == c || (carriedByValue (.ref b) && carriedByValue (.ref c))) = true
    · exact L2.wp_if_pos hv (wpAny_pure ⟨rfl, rfl, more⟩)
    · refine L2.wp_if_neg hv (wpAny_bind (wpAny_eqIsQuiet_tuple hk ?_))
      simp only [Bool.not_true, Bool.false_eq_true, if_false]
      refine wpAny_bind (wpAny_eqIsQuiet_tuple hc ?_)
      simp only [Bool.not_true, Bool.false_eq_true, if_false]
      refine wpAny_bind (stmt_tup hk ?_)
      simp only [Bool.false_eq_true, if_false]
      refine wpAny_bind (stmt_tup hc ?_)
      simp only [Bool.false_eq_true, if_false]
      exact wpAny_pure ⟨rfl, rfl, more⟩
  · rintro ⟨q1, q2⟩ z ⟨e, rfl, _⟩
    obtain rfl : q1 = none := e
    exact wpAny_pure h
end
end DL.KS

set_option Elab.async false
set_option linter.all false
set_option maxRecDepth 100000
set_option maxHeartbeats 1000000
namespace DL.KS
open PySem PySem.Spec PyProof.Rows L2
variable {P : Program} {w : World}
section
variable {A : Around} {E : Value → Shared → Prop} {s : Shared} {a : Addr} {L : List (Value × List Str)} {o : Obj} {es : Array (Int × Value)} {ep : Nat} {t : SetTable}

theorem even_no {m : Nat} (h : MaskOk m) : ¬ (m % 2 == 0) = true := by rw [mask_odd h]; decide
theorem no_dummy (m : Nat) : ∀ (n : Nat) (p : SetTable.Probe), p.dummy = none → (nth m p n).dummy = none
  | 0, _, h => h
  | n + 1, p, h => no_dummy m n (adv m p) (by unfold adv; split <;> exact h)
abbrev stand (m : Nat) (c : Int) (n : Nat) : SetTable.Probe := nth m (runAt m (SetTable.bits c % (m + 1)) (SetTable.bits c)) n
theorem stand_more (m : Nat) (c : Int) (n q : Nat) : nth m (stand m c n) q = stand m c (n + q) := (nth_add m n _ q).symm
theorem stand_way (m : Nat) (c : Int) (n q : Nat) : (nth m (stand m c n) q).j = way m c (n + q) := congrArg SetTable.Probe.j (stand_more m c n q)

theorem hunt (R : Holds (kT P w) s.heap a L o es ep t) {b : Addr} {k : List Str} (hk : TSk P w s.heap k b) (hu : A.units < cLine) {K : Nat} (kf : K < 10 * SetTable.turns t.mask)
    (ke : way t.mask ((kT P w).code k) K ∉ t.place.toList) (kb : ∀ c, c < K → way t.mask ((kT P w).code k) c ∈ t.place.toList) {Q : SetFound → Shared → Prop}
    (yes : k ∈ L.map Prod.snd → Q (.there none) s) (no : k ∉ L.map Prod.snd → Q (.free (way t.mask ((kT P w).code k) K) false) s) :
    ∀ (f c : Nat) (from_ : Option SetTable.Probe), from_.getD (t.probeStart ((kT P w).code k)) = stand t.mask ((kT P w).code k) c → c ≤ K → K - c < f →
      (∀ (i : Nat) (p : Value × List Str), L[i]? = some p → p.2 = k → ∃ c', c ≤ c' ∧ c' < K ∧ t.place.toList[i]? = some (way t.mask ((kT P w).code k) c')) →
      wpAny (model P w) A (setSearchFrom a (.ref b) ((kT P w).code k) true f from_) Q E s := by
  have T := R.also.1
  have entry := fun (i : Nat) (p : Value × List Str) (hp : L[i]? = some p) => rows_at R.rows hp
  have hashes : ∀ (i : Nat) (p : Value × List Str), L[i]? = some p → (fun i => (es[i]?.map (·.1)).getD 0) i = (kT P w).code p.2 := fun i p hp => by
    show (es[i]?.map (·.1)).getD 0 = _
    rw [entry i p hp]; rfl
  have size := rows_len R.rows
  have places : t.place.toList.length = L.length := by
    have z := T.sz
    rw [List.length_map] at z
    rw [Array.length_toList]; exact z
  intro f
  induction f with
  | zero => intro c _ _ _ hf; exact absurd hf (Nat.not_lt_zero _)
  | succ f ih =>
    intro c from_ hst hc hf ahead
    rw [setSearchFrom_succ]
    refine wpAny_bind (wpAny_setState_of R.at_ R.dat R.fit ?_)
    dsimp only
    refine L2.wp_if_neg (even_no T.mok) ?_
    try refine wpAny_bind (wpAny_pure ?_)
    have spec := go_spec t T.ris T.dm (fun i => (es[i]?.map (·.1)).getD 0) ((kT P w).code k) (10 * SetTable.turns t.mask) (K - c) (stand t.mask ((kT P w).code k) c) (no_dummy _ _ _ rfl) (by omega)
      (fun q hq => by rw [stand_way]; exact kb (c + q) (by omega)) (by rw [stand_way, show c + (K - c) = K by omega]; exact ke)
    rcases spec with ⟨q, i, hq, hi, hh, clear, e⟩ | ⟨clear, e⟩
    · -- some entry of that hash
      have e2 : t.probe (fun i => (es[i]?.map (·.1)).getD 0) ((kT P w).code k) (from_.getD (t.probeStart ((kT P w).code k))) = some (.candidate (way t.mask ((kT P w).code k) (c + q)) i (stand t.mask ((kT P w).code k) (c + (q + 1)))) := by
        rw [hst, ← stand_way, ← stand_more]; exact e
      rw [e2]
      dsimp only
      rw [stand_way] at hi
      obtain ⟨p, hp⟩ : ∃ p, L[i]? = some p := ⟨_, List.getElem?_eq_getElem (by have := (List.getElem?_eq_some_iff.mp hi).1; omega)⟩
      have pm : p ∈ L := List.mem_of_getElem? hp
      obtain ⟨c0, pv, pk⟩ := R.mem p pm
      have live := slot_live T.ris hi
      have rest : wpAny (model P w) A (searchRest a (.ref b) ((kT P w).code k) true f es t (way t.mask ((kT P w).code k) (c + q)) i (stand t.mask ((kT P w).code k) (c + (q + 1)))) Q E s := by
        unfold searchRest
        rw [entry i p hp]
        dsimp only [Kd.row]
        rw [pv]
        refine wpAny_bind (wpAny_holding (wpAny_eqBool_tuple hu pk hk ?_))
        refine wpAny_bind (wpAny_setState_of R.at_ R.dat R.fit ?_)
        dsimp only
        by_cases same : p.2 = k
        · exact L2.wp_if_pos (by simp [same]) (wpAny_pure (yes (List.mem_map.mpr ⟨p, pm, same⟩)))
        · refine L2.wp_if_neg (by simp [same]) ?_
          try refine wpAny_bind (wpAny_pure ?_)
          rw [sameMem]
          dsimp only
          simp only [if_true, live, entry i p hp]
          dsimp only [Kd.row]
          rw [pv]
          refine wpAny_bind (wpAny_isSame_ref_self (wpAny_bind (wpAny_pure ?_)))
          simp only [if_true]
          refine L2.wp_if_neg (by simp [same]) (ih (c + (q + 1)) _ rfl (by omega) (by omega) fun i0 p0 h0 k0 => ?_)
          obtain ⟨d, d1, d2, d3⟩ := ahead i0 p0 h0 k0
          refine ⟨d, ?_, d2, d3⟩
          rcases Nat.lt_trichotomy d (c + q) with z | z | z
          · refine absurd ((hashes i0 p0 h0).trans (congrArg (kT P w).code k0)) (clear (d - c) i0 (by omega) ?_)
            rw [stand_way, show c + (d - c) = d by omega]; exact d3
          · exfalso
            rw [z] at d3
            have s2 := slot_live T.ris d3
            rw [live] at s2
            injection s2 with s2
            subst s2
            obtain rfl := Option.some.inj (hp.symm.trans h0)
            exact same k0
          · omega
      by_cases hl : t.led = true
      · refine L2.wp_if_neg (by simp [hl]) ?_
        try refine wpAny_bind (wpAny_pure ?_)
        exact rest
      · refine L2.wp_if_pos (by simp [hl]) (wpAny_bind (unseen hk (fun y hy => ?_) (L2.wp_if_neg (by decide) ?_)))
        · obtain ⟨r, hr, rfl⟩ := List.mem_map.mp hy
          have r1 : r ∈ es ∧ r.1 = (kT P w).code k := by simpa using hr
          have r2 : r ∈ es.toList := by simpa using r1.1
          rw [R.rows] at r2
          obtain ⟨g, hg, rfl⟩ := List.mem_map.mp r2
          exact ⟨g.2, R.mem g hg⟩
        · try refine wpAny_bind (wpAny_pure ?_)
          exact rest
    · have e2 : t.probe (fun i => (es[i]?.map (·.1)).getD 0) ((kT P w).code k) (from_.getD (t.probeStart ((kT P w).code k))) = some (.empty (way t.mask ((kT P w).code k) K) none) := by
        rw [hst, show way t.mask ((kT P w).code k) K = (nth t.mask (stand t.mask ((kT P w).code k) c) (K - c)).j from by rw [stand_way, show c + (K - c) = K by omega]]
        exact e
      rw [e2]
      dsimp only
      refine wpAny_pure (no fun hm => ?_)
      obtain ⟨p0, m0, k0⟩ := List.mem_map.mp hm
      obtain ⟨i0, h0⟩ := List.mem_iff_getElem?.mp m0
      obtain ⟨d, d1, d2, d3⟩ := ahead i0 p0 h0 k0
      refine clear (d - c) i0 (by omega) ?_ ((hashes i0 p0 h0).trans (congrArg (kT P w).code k0))
      rw [stand_way, show c + (d - c) = d by omega]; exact d3
theorem hunt0 (R : Holds (kT P w) s.heap a L o es ep t) {b : Addr} {k : List Str} (hk : TSk P w s.heap k b) (hu : A.units < cLine) {Q : SetFound → Shared → Prop}
    (yes : k ∈ L.map Prod.snd → Q (.there none) s)
    (no : ∀ K, k ∉ L.map Prod.snd → way t.mask ((kT P w).code k) K ∉ t.place.toList → (∀ c, c < K → way t.mask ((kT P w).code k) c ∈ t.place.toList) → Q (.free (way t.mask ((kT P w).code k) K) false) s) :
    wpAny (model P w) A (setSearch a (.ref b) ((kT P w).code k) true) Q E s := by
  obtain ⟨T, room⟩ := R.also
  rw [List.length_map] at room
  obtain ⟨K, kf, ke, kb⟩ := T.first (by rw [List.length_map]; omega) ((kT P w).code k)
  have small : 10 * SetTable.turns t.mask ≤ 1420 := by
    unfold SetTable.turns
    rcases T.mok with e | e | e <;> omega
  unfold setSearch
  refine hunt R hk hu kf ke kb yes (fun n => no K n ke kb) 100000 0 none rfl (Nat.zero_le _) (by omega) fun i p hp e => ?_
  have hi : (L.map fun p => (kT P w).code p.2)[i]? = some ((kT P w).code k) := by rw [List.getElem?_map, hp, ← e]; rfl
  have lt : i < t.place.toList.length := by
    have z := T.sz
    rw [List.length_map] at z
    rw [Array.length_toList, z]
    exact (List.getElem?_eq_some_iff.mp hp).1
  obtain ⟨c, hc, e2⟩ := T.before ke hi (List.getElem?_eq_getElem lt)
  exact ⟨c, Nat.zero_le _, hc, by rw [List.getElem?_eq_getElem lt, e2]⟩
end
end DL.KS

set_option Elab.async false
set_option linter.all false
set_option maxRecDepth 100000
set_option maxHeartbeats 1000000
namespace DL.KS
open PySem PySem.Spec PyProof.Rows L2
variable {P : Program} {w : World} {K : Type} [DecidableEq K]

theorem pick_all {α : Type} (l : List α) : (List.range l.length).filterMap (fun i => l[i]?) = l := by
  have go : ∀ n, n ≤ l.length → (List.range n).filterMap (fun i => l[i]?) = l.take n := by
    intro n
    induction n with
    | zero => intro _; rfl
    | succ n ih =>
      intro h
      have g := List.getElem?_eq_getElem (l := l) (i := n) h
      rw [List.range_succ, List.filterMap_append, ih (Nat.le_of_succ_le h), take_next g, List.filterMap_cons_some g]
      rfl
  rw [go _ (Nat.le_refl _), List.take_length]
theorem rows_order (κ : Kd P w K) {L : List (Value × K)} {es : Array (Int × Value)} {order : Array Nat} (h : es.toList = L.map κ.row) (p : order.toList.Perm (List.range L.length)) :
    ∃ M : List (Value × K), (order.filterMap (es[·]?)).toList = M.map κ.row ∧ M.Perm L ∧ (M.map fun p => κ.code p.2) = order.toList.map fun i => (es.map (·.1)).getD i 0 := by
  have go : ∀ l : List Nat, (∀ i ∈ l, i < L.length) → l.filterMap (fun i => es[i]?) = (l.filterMap fun i => L[i]?).map κ.row ∧
      ((l.filterMap fun i => L[i]?).map fun p => κ.code p.2) = l.map fun i => (es.map (·.1)).getD i 0 := by
    intro l
    induction l with
    | nil => intro _; exact ⟨rfl, rfl⟩
    | cons i l ih =>
      intro hl
      obtain ⟨h1, h2⟩ := ih fun j hj => hl j (List.mem_cons_of_mem _ hj)
      have gi := List.getElem?_eq_getElem (hl i List.mem_cons_self)
      have ge := rows_at h gi
      have gh : (es.map (·.1)).getD i 0 = κ.code (L[i]'(hl i List.mem_cons_self)).2 := by
        rw [Array.getD_eq_getD_getElem?, Array.getElem?_map, ge]; rfl
      refine ⟨?_, ?_⟩
      · rw [List.filterMap_cons_some ge, List.filterMap_cons_some gi, h1, List.map_cons]
      · rw [List.filterMap_cons_some gi, List.map_cons, List.map_cons, h2, gh]
  obtain ⟨h1, h2⟩ := go order.toList fun i hi => List.mem_range.mp (p.mem_iff.mp hi)
  refine ⟨order.toList.filterMap fun i => L[i]?, by simpa using h1, ?_, h2⟩
  have z := p.filterMap fun i => L[i]?
  rwa [pick_all] at z

section
variable {A : Around} {E : Value → Shared → Prop} {s : Shared} {a : Addr} {L : List (Value × List Str)} {o : Obj} {es : Array (Int × Value)} {ep : Nat} {t : SetTable}
theorem widen (ho : s.heap.get? a = some o) (hx : o.ExactSet) (hd : o.data = .set es ep t) (rows : es.toList = L.map (kT P w).row) (fit : t.fits es.size = true) (alone : (L.map Prod.snd).Nodup)
    (mem : ∀ p ∈ L, (kT P w).holds s.heap p.2 p.1) (lead : w.params.followText "set-order" = true ∨ t.led = true) (few : L.length < 64) {n M : Nat}
    (hM : SetTable.sizeAbove n - 1 = M) (hok : MaskOk M) (hs : SetTable.sizeAbove n ≤ 128) (room : L.length * 5 < M * 3) {Q : Unit → Shared → Prop}
    (hQ : ∀ h' L', Heap.SameBut a s.heap h' → SetAt (kT P w) h' a L' → L'.Perm L → Q () { s with heap := h' }) : wpAny (model P w) A (setRelay a n) Q E s := by
  have hn := rows_len rows
  obtain ⟨t', order, e, hp, T, em, el, _, ed⟩ := relaid_ok t (hs := es.map (·.1)) (wanted := n) hM hok (by rw [Array.size_map, hn]; omega)
  rw [Array.size_map, hn] at hp
  obtain ⟨M', r1, r2, r3⟩ := rows_order (kT P w) rows hp
  rw [← r3] at T
  have hz : (order.filterMap (es[·]?)).size = es.size := by rw [rows_len r1, r2.length_eq, hn]
  rw [setRelay_eq]
  refine wpAny_bind (wpAny_setState_of ho hd fit ?_)
  dsimp only
  refine L2.wp_if_neg (by rw [sizeLine_eq]; omega) ?_
  try refine wpAny_bind (wpAny_pure ?_)
  rw [e]
  dsimp only
  refine wpAny_bind (L2.wp_if_neg (by rw [hz]; simp) ?_)
  try refine wpAny_bind (wpAny_pure ?_)
  refine wpAny_pure ?_
  dsimp only
  have sb : Heap.SameBut a s.heap (s.heap.update a (Obj.putSet (order.filterMap (es[·]?)) t')) := Heap.SameBut.update ..
  refine wpAny_storeSet_of ho hd (hQ _ M' sb ⟨_, _, _, t', L2.store_at ho hd, ⟨hx.1, hx.2.1, hx.2.2⟩, rfl, r1, (r2.map Prod.snd).nodup_iff.mpr alone, fun p m => stay_set ho hx sb (mem p (r2.mem_iff.mp m)), ?_, T.ris, by rw [el]; exact lead, by rw [r2.length_eq]; exact few, T, ?_⟩ r2) (by rw [hz, hn, sizeLine_eq]; omega)
  · have z := T.sz
    rw [List.length_map, r2.length_eq] at z
    unfold SetTable.fits SetTable.fill
    rw [ed, Bool.and_eq_true, beq_iff_eq, decide_eq_true_eq, hz, hn, em]
    exact ⟨z, by show t'.place.size + 0 ≤ M; omega⟩
  · rw [List.length_map, r2.length_eq, em]; exact room

theorem put_tup {b : Addr} {k : List Str} (R : Holds (kT P w) s.heap a L o es ep t) (hk : TSk P w s.heap k b) (hu : A.units < cLine) (few : k ∉ L.map Prod.snd → L.length + 1 < 64) {Q : Bool → Shared → Prop}
    (hQ : ∀ c h' L', Heap.SameBut a s.heap h' → SetAt (kT P w) h' a L' → (k ∈ L.map Prod.snd → L' = L) → (k ∉ L.map Prod.snd → L'.Perm ((.ref b, k) :: L)) → Q c { s with heap := h' }) :
    wpAny (model P w) A (setAddHashed a (.ref b) ((kT P w).code k)) Q E s := by
  obtain ⟨T, room⟩ := R.also
  rw [List.length_map] at room
  have hn := rows_len R.rows
  unfold setAddHashed
  rw [show (100000 : Nat) = 99999 + 1 from rfl, setAddHashedIn_succ]
  refine wpAny_holding (wpAny_bind (wpAny_setState_of R.at_ R.dat R.fit ?_))
  dsimp only
  refine L2.wp_if_neg (by simp [byScan, Value.scannable]) ?_
  try refine wpAny_bind (wpAny_pure ?_)
  refine wpAny_bind (hunt0 R hk hu (fun y => ?_) fun C n ce cb => ?_)
  · dsimp only
    exact wpAny_pure (hQ false s.heap L (Heap.SameBut.refl a s.heap) ⟨o, es, ep, t, R⟩ (fun _ => rfl) fun z => absurd y z)
  · dsimp only
    refine wpAny_bind (wpAny_setState_of R.at_ R.dat R.fit ?_)
    dsimp only
    obtain ⟨p1, p2, p3, p4, p5, -, -, -, p9⟩ := T.put ce cb
    generalize t.put (way t.mask ((kT P w).code k) C) = pt at p1 p3 p4 p5 p9 ⊢
    obtain ⟨t1, i⟩ := pt
    dsimp only at p1 p3 p4 p5 p9 ⊢
    subst p1
    rw [List.length_map] at p2 p9
    generalize SetTable.below t.place (way t.mask ((kT P w).code k) C) = i at p2 p3 ⊢
    have rows1 : (SetTable.insertAt es i ((kT P w).code k, Value.ref b)).toList = (L.take i ++ (Value.ref b, k) :: L.drop i).map (kT P w).row := by
      rw [SetTable.toList_insertAt, R.rows, List.map_append, List.map_cons, List.map_take, List.map_drop]; rfl
    have pm : (L.take i ++ (Value.ref b, k) :: L.drop i).Perm ((Value.ref b, k) :: L) := put_perm L i _
    have codes : (L.take i ++ (Value.ref b, k) :: L.drop i).map (fun p => (kT P w).code p.2) = (L.map fun p => (kT P w).code p.2).take i ++ (kT P w).code k :: (L.map fun p => (kT P w).code p.2).drop i := by
      rw [List.map_append, List.map_cons, List.map_take, List.map_drop]
    rw [← codes] at p3
    have alone1 : ((L.take i ++ (Value.ref b, k) :: L.drop i).map Prod.snd).Nodup := (pm.map Prod.snd).nodup_iff.mpr (by rw [List.map_cons]; exact List.nodup_cons.mpr ⟨n, R.alone⟩)
    have len1 := pm.length_eq
    rw [List.length_cons] at len1
    generalize SetTable.insertAt es i ((kT P w).code k, Value.ref b) = es1 at rows1 ⊢
    generalize L.take i ++ (Value.ref b, k) :: L.drop i = L1 at rows1 pm p3 alone1 len1
    have hn1 := rows_len rows1
    have few1 : L1.length < 64 := by rw [len1]; exact few n
    have lead1 : w.params.followText "set-order" = true ∨ t1.led = true := by rw [p5]; exact R.lead
    have fits1 : t1.fits es1.size = true := by
      have z := p3.sz
      rw [List.length_map] at z
      unfold SetTable.fits SetTable.fill
      rw [p3.dm, Bool.and_eq_true, beq_iff_eq, decide_eq_true_eq, hn1, p4]
      exact ⟨z, by show t1.place.size + 0 ≤ t.mask; omega⟩
    -- what follows, the table's mark «plain» being either
    have tail : ∀ (t2 : SetTable), t2.place = t1.place → t2.dummies = t1.dummies → t2.mask = t1.mask → t2.led = t1.led → TabOk t2 (L1.map fun p => (kT P w).code p.2) → t2.fits es1.size = true → wpAny (model P w) A (do
        storeSet a es1 t2
        if (!false && t2.tooFull) = true then setRelay a (SetTable.grown (es.size + 1))
        return true) Q E s := by
      intro t2 e1 e2 e3 e4 T2 fits2
      have sb : Heap.SameBut a s.heap (s.heap.update a (Obj.putSet es1 t2)) := Heap.SameBut.update ..
      have mem1 : ∀ p ∈ L1, (kT P w).holds (s.heap.update a (Obj.putSet es1 t2)) p.2 p.1 := fun p m => stay_set R.at_ R.exact_ sb (by
        rcases List.mem_cons.mp (pm.mem_iff.mp m) with z | z
        · rw [z]; exact ⟨b, rfl, hk⟩
        · exact R.mem p z)
      have at1 := L2.store_at (es' := es1) (t' := t2) R.at_ R.dat
      refine wpAny_bind (wpAny_storeSet_of R.at_ R.dat ?_ (by rw [hn1, sizeLine_eq]; omega))
      generalize s.heap.update a (Obj.putSet es1 t2) = h1 at sb mem1 at1 ⊢
      have fill2 : t2.fill = t1.fill := by unfold SetTable.fill; rw [e1, e2]
      by_cases full : t2.tooFull = true
      · have full2 := full
        unfold SetTable.tooFull at full2
        rw [decide_eq_true_eq, fill2, p9, e3, p4] at full2
        first
          | (refine wpAny_bind ?_; refine L2.wp_if_pos (by simp [full]) ?_)
          | (refine L2.wp_if_pos (by simp [full]) ?_; refine wpAny_bind ?_)
        rw [hn]
        have go : ∀ M, SetTable.sizeAbove (SetTable.grown (L.length + 1)) - 1 = M → MaskOk M → SetTable.sizeAbove (SetTable.grown (L.length + 1)) ≤ 128 → (L.length + 1) * 5 < M * 3 →
            wpAny (model P w) A (setRelay a (SetTable.grown (L.length + 1))) (fun _ s' => wpAny (model P w) A (pure true) Q E s') E { s with heap := h1 } := fun M g1 g2 g3 g4 =>
          widen (s := { s with heap := h1 }) at1 ⟨R.exact_.1, R.exact_.2.1, R.exact_.2.2⟩ rfl rows1 fits2 alone1 mem1 (by rw [e4]; exact lead1) few1 g1 g2 g3 (by rw [len1]; exact g4) fun h2 L2' sb2 S2 pm2 =>
            wpAny_pure (hQ true h2 L2' (sb.trans sb2) S2 (fun z => absurd z n) fun _ => pm2.trans pm)
        rcases T.mok with m | m | m
        · rw [m] at full2 room
          have z : L.length = 4 := by omega
          exact go 31 (by rw [z, size_20]) (.inr (.inl rfl)) (by rw [z, size_20]; decide) (by omega)
        · rw [m] at full2 room
          have z : L.length = 18 := by omega
          exact go 127 (by rw [z, size_76]) (.inr (.inr rfl)) (by rw [z, size_76]; decide) (by omega)
        · rw [m] at full2
          have := few n
          omega
      · have less := full
        unfold SetTable.tooFull at less
        rw [decide_eq_true_eq, fill2, p9, e3, p4] at less
        first
          | refine L2.wp_if_neg (by simp [full]) ?_
          | (refine wpAny_bind ?_; refine L2.wp_if_neg (by simp [full]) ?_; refine wpAny_pure ?_)
        exact wpAny_pure (hQ true h1 L1 sb ⟨_, es1, ep + 1, t2, at1, ⟨R.exact_.1, R.exact_.2.1, R.exact_.2.2⟩, rfl, rows1, alone1, mem1, fits2, T2.ris, by rw [e4]; exact lead1, few1, T2, by rw [List.length_map, len1, e3, p4]; omega⟩ (fun z => absurd z n) fun _ => pm)
    by_cases pl : t1.plain = true
    · first
        | (refine wpAny_bind ?_; refine L2.wp_if_pos pl ?_; refine byVal_tup hk fun c => ?_)
        | refine L2.wp_if_pos pl (wpAny_bind (byVal_tup hk fun c => ?_))
      cases c
      · exact tail _ rfl rfl rfl rfl ⟨p3.ris, p3.dm, p3.sz, p3.mok, p3.bd, p3.reach⟩ (SetTable.fits_plain_off fits1)
      · exact tail t1 rfl rfl rfl rfl p3 fits1
    · first
        | (refine wpAny_bind ?_; refine L2.wp_if_neg pl ?_; refine wpAny_pure ?_)
        | (refine L2.wp_if_neg pl ?_; refine wpAny_bind (wpAny_pure ?_))
      exact tail t1 rfl rfl rfl rfl p3 fits1
theorem takes_tups : Takes (kT P w) := by
  intro A E s a x k L Q hu hv ⟨o, es, ep, t, R⟩ few hQ
  obtain ⟨b, rfl, hk⟩ := hv
  unfold setAdd
  refine wpAny_holding (wpAny_bind (wpAny_pyHash_tuple hu hk ?_))
  exact put_tup (s := { s with toks := s.toks + (k.length + 1) }) R hk hu few fun c h' L' sb S1 c1 c2 => hQ c h' _ L' (Nat.le_add_right _ _) sb S1 c1 c2
end
end DL.KS

set_option Elab.async false
set_option linter.all false
set_option maxRecDepth 100000
set_option maxHeartbeats 1000000
namespace DL.KS
open PySem PySem.Spec PyProof.Rows L2
variable {P : Program} {w : World} {K : Type} [DecidableEq K] {κ : Kd P w K}

structure Has (κs : List (Value × K)) (i : Nat) (L : List (Value × K)) : Prop where
  from_ : ∀ p ∈ L, p ∈ κs.take i
  all : ∀ p ∈ κs.take i, p.2 ∈ L.map Prod.snd
theorem take_one_more {α : Type} {l : List α} {i : Nat} {x : α} (h : l[i]? = some x) {y : α} : y ∈ l.take (i + 1) ↔ y ∈ l.take i ∨ y = x := by
  rw [take_next h, List.mem_append, List.mem_singleton]
theorem Has.next {κs L L' : List (Value × K)} {i : Nat} {x : Value × K} (g : Has κs i L) (h : κs[i]? = some x) (c1 : x.2 ∈ L.map Prod.snd → L' = L) (c2 : x.2 ∉ L.map Prod.snd → L'.Perm (x :: L)) : Has κs (i + 1) L' := by
  by_cases c : x.2 ∈ L.map Prod.snd
  · rw [c1 c]
    refine ⟨fun p hp => (take_one_more h).mpr (.inl (g.from_ p hp)), fun p hp => ?_⟩
    rcases (take_one_more h).mp hp with z | rfl
    · exact g.all p z
    · exact c
  · have pm := c2 c
    refine ⟨fun p hp => (take_one_more h).mpr ?_, fun p hp => (pm.map Prod.snd).mem_iff.mpr ?_⟩
    · rcases List.mem_cons.mp (pm.mem_iff.mp hp) with z | z
      · exact .inr z
      · exact .inl (g.from_ p z)
    · rw [List.map_cons]
      rcases (take_one_more h).mp hp with z | rfl
      · exact List.mem_cons_of_mem _ (g.all p z)
      · exact List.mem_cons_self
theorem Holds.moves {h h' : Heap} {a : Addr} {L : List (Value × K)} (g : SetAt κ h a L) (ha : ∀ o, h.get? a = some o → h'.get? a = some o) (hm : ∀ p ∈ L, κ.holds h' p.2 p.1) : SetAt κ h' a L := by
  obtain ⟨o, es, ep, t, R⟩ := g
  exact ⟨o, es, ep, t, ha o R.at_, R.exact_, R.dat, R.rows, R.alone, hm, R.fit, R.up, R.lead, R.few, R.also⟩
theorem stay_all {h h' : Heap} {k : K} {v : Value} (x : κ.holds h k v) (g : ∀ b o, h.get? b = some o → h'.get? b = some o) : κ.holds h' k v := κ.stay x fun b o e _ => g b o e

theorem pour {I : Addr} {fp wr : List Addr} {G : Array GenState → Array GenState → Prop} {n : Nat} {Pv : Nat → Value → Prop} {St : Nat → Shared → Prop} {R : Result → Shared → Prop} {A : Around}
    (W : WalksS P w A.in1 I fp wr G n Pv St) (tk : Takes κ) (S : Addr) (hSf : S ∉ fp) (κs : List (Value × K)) (hn : n = κs.length) (few : ∀ M : List K, M.Nodup → (∀ k ∈ M, k ∈ κs.map Prod.snd) → M.length < 64)
    (hval : ∀ i v, Pv i v → ∃ p, κs[i]? = some p ∧ v = p.1) (h0 : Heap) (hk : ∀ p ∈ κs, κ.holds h0 p.2 p.1) (hS0 : h0.get? S = none) (hw0 : ∀ b ∈ wr, h0.get? b = none) (hc : κ.calm A.in1) :
    ∀ (d i : Nat) (s : Shared), n - i = d → i ≤ n → St i s → (∀ b o, h0.get? b = some o → s.heap.get? b = some o) → (∃ L, SetAt κ s.heap S L ∧ Has κs i L) →
      (∀ s' L, Moved (S :: wr) G s s' → SetAt κ s'.heap S L → Has κs n L → (∀ b o, h0.get? b = some o → s'.heap.get? b = some o) → R (.ok (.ret .none)) s') →
      codeAny (model P w) A (.builtin "set.update.loop" ⟨[.ref S, .ref I], []⟩) R s := by
  have apart : S ∉ wr := fun z => hSf (W.sub _ z)
  have wider : ∀ b ∈ wr, b ∈ S :: wr := fun b m => List.mem_cons_of_mem _ m
  have old : ∀ {s s' : Shared}, Moved wr G s s' → (∀ b o, h0.get? b = some o → s.heap.get? b = some o) → ∀ b o, h0.get? b = some o → s'.heap.get? b = some o := fun hm g b o e =>
    hm.heap b o (fun m => by rw [hw0 b m] at e; cases e) (g b o e)
  intro d
  induction d with
  | zero =>
    intro i s hd hi hst g0 ⟨L, hS, g⟩ hR
    obtain rfl : i = n := by omega
    refine codeAny_builtin F.entry_set_update_loop ?_
    rw [Around.under_plainId F.plain_set_update_loop _]
    show wpAny _ A.in1 (pyNext (.ref I) >>= _) _ _ s
    refine wpAny_bind (W.done s _ _ hst fun s' hm => ?_)
    show wpAny _ A.in1 (ret Value.none) _ _ s'
    have g1 := old hm g0
    exact wpAny_pure (hR s' L (hm.mono wider) (Holds.moves hS (fun o e => hm.heap S o apart e) fun p m => stay_all (hk p (List.mem_of_mem_take (g.from_ p m))) g1) g g1)
  | succ d ih =>
    intro i s hd hi hst g0 ⟨L, hS, g⟩ hR
    have lt : i < n := by omega
    refine codeAny_builtin F.entry_set_update_loop ?_
    rw [Around.under_plainId F.plain_set_update_loop _]
    show wpAny _ A.in1 (pyNext (.ref I) >>= _) _ _ s
    refine wpAny_bind (W.item i s _ _ lt hst fun v s' hP hst' hm => ?_)
    obtain ⟨p, hp, rfl⟩ := hval i v hP
    have g1 := old hm g0
    have hS1 : SetAt κ s'.heap S L := Holds.moves hS (fun o e => hm.heap S o apart e) fun q m => stay_all (hk q (List.mem_of_mem_take (g.from_ q m))) g1
    show wpAny _ A.in1 (holding [p.1] (setAdd S p.1) >>= _) _ _ s'
    refine wpAny_bind (wpAny_holding (tk hc (stay_all (hk p (List.mem_of_getElem? hp)) g1) hS1 (fun nk => ?_) fun c h' t' L' ht sb hS2 c1 c2 => ?_))
    · obtain ⟨_, _, _, _, R1⟩ := hS1
      have z := few (p.2 :: L.map Prod.snd) (List.nodup_cons.mpr ⟨nk, R1.alone⟩) fun k m => by
        rcases List.mem_cons.mp m with rfl | m
        · exact List.mem_map_of_mem (List.mem_of_getElem? hp)
        · obtain ⟨q, mq, rfl⟩ := List.mem_map.mp m
          exact List.mem_map_of_mem (List.mem_of_mem_take (g.from_ q mq))
      rw [List.length_cons, List.length_map] at z
      exact z
    have g2 : ∀ b o, h0.get? b = some o → h'.get? b = some o := fun b o e => (sb.2 b (fun z => by rw [z, hS0] at e; cases e)).trans (g1 b o e)
    refine wpAny_pure ⟨plainId_quiet F.plain_set_update_loop _, ih (i + 1) _ (by omega) lt (W.frame _ s' _ _ hst' ht fun b m o e => ?_) g2 ⟨L', hS2, g.next hp c1 c2⟩ fun s2 L2 hm2 hS3 g3 g4 => ?_⟩
    · rw [sb.2 b fun z : b = S => hSf (by rw [← z]; exact m)]; exact e
    · refine hR s2 L2 (Moved.trans W.gtrans ((hm.mono wider).then_heap ht fun b o m e => ?_) hm2) hS3 g3 g4
      rw [sb.2 b fun z : b = S => m (by rw [z]; exact List.mem_cons_self)]; exact e

abbrev emptySet (w : World) : Obj := { cls := .type "set", dict := none, data := .set #[] 0 (.fresh 0 0 (!w.params.followText "set-order")) }
theorem lead_fresh (w : World) : w.params.followText "set-order" = true ∨ (SetTable.fresh 0 0 (!w.params.followText "set-order")).led = true := by
  show _ ∨ (!w.params.followText "set-order") = true
  cases w.params.followText "set-order"
  · exact .inr rfl
  · exact .inl rfl
theorem empty_at (h0 : κ.also (.fresh 0 0 (!w.params.followText "set-order")) []) {h : Heap} {a : Addr} (ho : h.get? a = some (emptySet w)) : SetAt κ h a [] :=
  ⟨_, #[], 0, _, ho, ⟨rfl, rfl, rfl⟩, rfl, rfl, List.nodup_nil, (fun p m => nomatch m), by show SetTable.fits _ 0 = true; rfl, List.Pairwise.nil, lead_fresh w, (by show 0 < 64; decide), h0⟩
theorem also_tups (P : Program) (w : World) : (kT P w).also (.fresh 0 0 (!w.params.followText "set-order")) [] :=
  ⟨⟨List.Pairwise.nil, rfl, rfl, .inl rfl, (fun x hx => nomatch hx), fun i h j hi => by simp at hi⟩, by show 0 * 5 < 7 * 3; decide⟩

section
variable {A : Around} {E : Value → Shared → Prop} {s : Shared}
set_option maxHeartbeats 3200000 in
theorem make_set (tk : Takes κ) (h0 : κ.also (.fresh 0 0 (!w.params.followText "set-order")) []) {l : Addr} {items : Array Value} (κs : List (Value × K)) {Q : Value → Shared → Prop} (hh : A.handled = none) (hl : s.heap.IsList l items)
    (hit : items.toList = κs.map Prod.fst) (hk : ∀ p ∈ κs, κ.holds s.heap p.2 p.1) (few : ∀ M : List K, M.Nodup → (∀ k ∈ M, k ∈ κs.map Prod.snd) → M.length < 64) (hc : κ.calm A.in1.in1.in1)
    (h : ∀ (h' : Heap) (t' : Nat) L, SetAt κ h' s.heap.objs.size L → Has κs κs.length L → (∀ b o, s.heap.get? b = some o → h'.get? b = some o) → Q (.ref s.heap.objs.size) { s with heap := h', toks := t' }) :
    wpAny (model P w) A (call (.type "set") [.ref l]) Q E s := by
  have size : items.size = κs.length := by rw [← Array.length_toList, hit, List.length_map]
  obtain ⟨c, tl, hmro⟩ := F.called_set.mro
  have f1 := F.called_set.made
  have f2 := F.called_set.sub
  have f3 := F.called_set.notType
  have f4 := F.called_set.canCreate
  have f5 := F.typeCall_set_1 (.ref l)
  refine wpAny_call (codeAny_of_tree ?_)
  show wpAny _ _ (callAny (.type "set") _) _ _ _
  refine wpAny_pure ⟨Code.quiet_builtin _ (by decide +kernel), codeAny_builtin F.entry_type_call ?_⟩
  rw [Around.under_plain (weight_type_call_type "set" [.ref l] []) rfl]
  repeat (any_goals (first | assumption | wp_step))
  refine codeAny_mono (code_set_led1 (.ref l) (E := E) (Q₁ := fun x z => x = .ref s.heap.objs.size ∧ z = { s with heap := s.heap.push (emptySet w) }) ⟨rfl, rfl⟩) fun r z hr => ?_
  rcases r with e | fl
  · exact hr
  cases fl with
  | ret x =>
    obtain ⟨rfl, rfl⟩ := hr
    have hS : (s.heap.push (emptySet w)).get? s.heap.objs.size = some (emptySet w) := Heap.get?_push_size _ rfl
    have ty : Shared.TypeIs { s with heap := s.heap.push (emptySet w) } (.ref s.heap.objs.size) "set" := ⟨_, hS, rfl⟩
    have f6 := F.called_set.init.lookup
    have f7 := F.called_set.init.bind (.ref s.heap.objs.size)
    repeat (any_goals (first | assumption | wp_step))
    refine codeAny_mono (codeAny_call_builtin (R := wants (fun r z => r = .none ∧ ∃ h' t' L, z = { s with heap := h', toks := t' } ∧ SetAt κ h' s.heap.objs.size L ∧ Has κs κs.length L ∧ (∀ b o, s.heap.get? b = some o → h'.get? b = some o)) E)
      F.called_set.init.plain F.entry_set_init (check_set_init_1 ty ?_)) fun r2 z2 hr2 => ?_
    · obtain ⟨⟨ocls, odict, odata, oslots⟩, hol, hcl, nl, hdl⟩ := hl
      obtain rfl : ocls = .type "list" := hcl
      obtain rfl : odata = .seq items nl := hdl
      have lists : (s.heap.push (emptySet w)).get? l = some { cls := .type "list", dict := odict, data := .seq items nl, slots := oslots } := Heap.get?_push_of_some _ hol
      have f8 := F.sub_list_set
      have f9 := F.sub_list_frozenset
      have f10 : (Value.type "list" == Value.type "dict") = false := by decide
      have isl : (s.heap.push (emptySet w)).IsList l items := ⟨_, lists, rfl, nl, rfl⟩
      have below : l < s.heap.objs.size := Heap.lt_size hol
      unfold Builtin.«set.__init__» noKeywords Builtin.Frozenset.updateFrom
      generalize hPI : pyIter = PI
      wp_walk
      subst hPI
      refine wpAny_pyIter_list isl (wpAny_bind (wpAny_runValue ?_))
      have free : ∀ b, s.heap.objs.size ≤ b → s.heap.get? b = none := fun b hb => by
        cases q : s.heap.get? b with
        | none => rfl
        | some o => exact absurd (Nat.lt_of_lt_of_le (Heap.lt_size q) hb) (Nat.lt_irrefl _)
      have hh3 : A.in1.in1.in1.handled = none := by simp [hh]
      have ap : l ≠ (s.heap.push (emptySet w)).objs.size := by rw [Heap.size_push]; exact Nat.ne_of_lt (Nat.lt_succ_of_lt below)
      refine pour ((Walks.list hh3 _ l ap items).toS) tk s.heap.objs.size (by
          rw [Heap.size_push]
          simp only [List.mem_cons, List.mem_singleton, List.not_mem_nil, or_false, not_or]
          exact ⟨Nat.ne_of_lt (Nat.lt_succ_self _), Nat.ne_of_gt below⟩) κs size few (fun i v hv => by
          have q : items.toList[i]? = some v := by rw [Array.getElem?_toList]; exact hv
          rw [hit, List.getElem?_map] at q
          obtain ⟨p, hp, e⟩ := Option.map_eq_some_iff.mp q
          exact ⟨p, hp, e.symm⟩) s.heap hk (free _ (Nat.le_refl _)) (fun b m => free b (by rw [List.mem_singleton.mp m, Heap.size_push]; exact Nat.le_succ _)) hc (items.size - 0) 0 _ (by omega) (Nat.zero_le _)
        ⟨⟨_, Heap.get?_push_size _ rfl, rfl, rfl⟩, isl.push _⟩ (fun b o e => Heap.get?_push_of_some _ (Heap.get?_push_of_some _ e))
        ⟨[], empty_at h0 (Heap.get?_push_of_some _ hS), ⟨(fun p m => nomatch m), fun p m => by simp at m⟩⟩ fun z' L hm hS' g' hkp => ?_
      obtain ⟨h', g2, d', t', os'⟩ := z'
      obtain rfl : g2 = s.gens := hm.gens
      obtain rfl : d' = s.drawn := hm.drawn
      obtain rfl : os' = s.os := hm.os
      show wpAny _ _ _ _ _ _
      refine wpAny_pure ?_
      show wpAny _ _ (ret Value.none) _ _ _
      rw [size] at g'
      exact wpAny_pure ⟨rfl, h', t', L, rfl, hS', g', hkp⟩
    · rcases r2 with e | fl2
      · exact hr2
      cases fl2 with
      | ret r =>
        obtain ⟨rfl, h', t', L, rfl, hS', g', hk'⟩ := hr2
        repeat (any_goals (first | assumption | wp_step))
        exact h _ _ _ hS' g' hk'
      | _ => exact hr2.elim
  | _ => exact hr.elim
end
end DL.KS

set_option Elab.async false
set_option linter.all false
set_option maxRecDepth 100000
set_option maxHeartbeats 1000000
namespace DL.KS
open PySem PySem.Spec PyProof.Rows L2
variable {P : Program} {w : World} {K : Type} [DecidableEq K] {κ : Kd P w K}

structure Ord (lt : K → K → Bool) : Prop where
  irr : ∀ a, lt a a = false
  trans : ∀ a b c, lt a b = true → lt b c = true → lt a c = true
  tri : ∀ a b, lt a b = true ∨ a = b ∨ lt b a = true
theorem count_le {α : Type} {p q : α → Bool} : ∀ (l : List α), (∀ x ∈ l, p x = true → q x = true) → l.countP p ≤ l.countP q
  | [], _ => Nat.le_refl _
  | x :: l, h => by
    have ih := count_le l fun y m => h y (List.mem_cons_of_mem _ m)
    rw [List.countP_cons, List.countP_cons]
    by_cases c : p x = true
    · rw [if_pos c, if_pos (h x List.mem_cons_self c)]; omega
    · rw [if_neg c]; split <;> omega
theorem count_lt {α : Type} {p q : α → Bool} : ∀ (l : List α), (∀ x ∈ l, p x = true → q x = true) → (∃ x ∈ l, p x = false ∧ q x = true) → l.countP p < l.countP q
  | [], _, ⟨x, m, _⟩ => nomatch m
  | x :: l, h, ⟨y, m, c1, c2⟩ => by
    have hl : ∀ y ∈ l, p y = true → q y = true := fun y m => h y (List.mem_cons_of_mem _ m)
    rw [List.countP_cons, List.countP_cons]
    rcases List.mem_cons.mp m with rfl | m
    · have := count_le l hl
      rw [c1, c2]
      simp only [Bool.false_eq_true, if_false, if_true]
      omega
    · have ih := count_lt l hl ⟨y, m, c1, c2⟩
      by_cases c : p x = true
      · rw [if_pos c, if_pos (h x List.mem_cons_self c)]; omega
      · rw [if_neg c]; split <;> omega
open Classical in
noncomputable def rank (κ : Kd P w K) (lt : K → K → Bool) (h : Heap) (vs : List Value) (v : Value) : Int :=
  ((vs.countP fun u => decide (∃ k j, κ.holds h k u ∧ κ.holds h j v ∧ lt k j = true) : Nat) : Int)
theorem rank_lt {lt : K → K → Bool} (O : Ord lt) {h : Heap} {vs : List Value} (all : ∀ v ∈ vs, ∃ k, κ.holds h k v) {u v : Value} (hu : u ∈ vs) {k j : K} (hk : κ.holds h k u) (hj : κ.holds h j v) :
    decide (rank κ lt h vs u < rank κ lt h vs v) = lt k j := by
  classical
  have out : ∀ {x : Value} {i : K}, κ.holds h i x → ∀ y, decide (∃ k j, κ.holds h k y ∧ κ.holds h j x ∧ lt k j = true) = true ↔ ∃ k, κ.holds h k y ∧ lt k i = true := fun hi y => by
    rw [decide_eq_true_eq]
    exact ⟨fun ⟨k, j, a, b, c⟩ => ⟨k, a, by rw [← κ.one b hi]; exact c⟩, fun ⟨k, a, c⟩ => ⟨k, _, a, hi, c⟩⟩
  unfold rank
  cases q : lt k j with
  | true =>
    rw [decide_eq_true_eq, Int.ofNat_lt]
    refine count_lt vs (fun x _ hx => ?_) ⟨u, hu, ?_, ?_⟩
    · obtain ⟨i, h1, h2⟩ := (out hk x).mp hx
      exact (out hj x).mpr ⟨i, h1, O.trans _ _ _ h2 q⟩
    · cases z : decide (∃ a b, κ.holds h a u ∧ κ.holds h b u ∧ lt a b = true) with
      | false => rfl
      | true =>
        obtain ⟨i, h1, h2⟩ := (out hk u).mp z
        rw [κ.one h1 hk, O.irr] at h2
        cases h2
    · exact (out hj u).mpr ⟨k, hk, q⟩
  | false =>
    rw [decide_eq_false_iff_not, Int.ofNat_lt, Nat.not_lt]
    refine count_le vs fun x _ hx => ?_
    obtain ⟨i, h1, h2⟩ := (out hj x).mp hx
    refine (out hk x).mpr ⟨i, h1, ?_⟩
    rcases O.tri j k with z | z | z
    · exact O.trans _ _ _ h2 z
    · rw [← z]; exact h2
    · rw [q] at z; cases z

def Cmps (κ : Kd P w K) (lt : K → K → Bool) (good : K → Prop) : Prop := ∀ {A : Around} {E : Value → Shared → Prop} {s : Shared} {vs : List Value} {Q : SortKind → Shared → Prop}, 2 ≤ vs.length → (∀ v ∈ vs, ∃ k, κ.holds s.heap k v ∧ good k) →
  (∀ sk, (∀ u ∈ vs, ∀ v ∈ vs, ∀ k j, κ.holds s.heap k u → κ.holds s.heap j v → ∀ (C : Bool → Shared → Prop) (E' : Value → Shared → Prop), C (lt k j) s → wpAny (model P w) A (keyLt' sk u v) C E' s) → Q sk s) →
  wpAny (model P w) A (keyKind' vs.toArray) Q E s

theorem perm_back {α β : Type} {f : α → β} : ∀ {l : List β} {L : List α}, l.Perm (L.map f) → ∃ M : List α, l = M.map f ∧ M.Perm L
  | [], L, h => by
    have z := h.length_eq
    rw [List.length_map] at z
    exact ⟨[], rfl, by rw [List.eq_nil_of_length_eq_zero z.symm]⟩
  | x :: l, L, h => by
    obtain ⟨a, ha, e⟩ := List.mem_map.mp (h.mem_iff.mp (List.mem_cons_self (a := x) (l := l)))
    obtain ⟨L1, L2, rfl⟩ := List.append_of_mem ha
    have p : (L1 ++ a :: L2).Perm (a :: (L1 ++ L2)) := List.perm_middle
    have h2 := h.trans (p.map f)
    rw [List.map_cons, e] at h2
    obtain ⟨M, e2, pm⟩ := perm_back (List.Perm.cons_inv h2)
    exact ⟨a :: M, by rw [List.map_cons, e, e2], (pm.cons a).trans p.symm⟩
section
variable {A : Around} {E : Value → Shared → Prop} {s : Shared}
theorem class_apart {h : Heap} {a : Addr} {vs : List Value} {n : Nat} (ho : h.get? a = some (seqObj "list" vs.toArray n)) : ∀ b o, h.get? b = some o → o.cls = .type "tuple" → (TS.midHeap h a vs).get? b = some o := fun b o e hc =>
  TS.midHeap_old (fun z => by
    subst z
    obtain rfl := Option.some.inj (ho.symm.trans e)
    have z : Value.type "list" = Value.type "tuple" := hc
    injection z with z
    exact absurd z (by decide)) e
theorem sort_keys {lt : K → K → Bool} {good : K → Prop} (C : Cmps κ lt good) (O : Ord lt) {a : Addr} {vs : List Value} {n : Nat} {Q : Value → Shared → Prop} (ho : s.heap.get? a = some (seqObj "list" vs.toArray n)) (few : vs.length < 64)
    (all0 : ∀ v ∈ vs, ∃ k, κ.holds s.heap k v ∧ good k)
    (h : ∀ out : Array Value, out.toList.Perm vs → out.toList.Pairwise (fun u v => ∀ k j, κ.holds s.heap k u → κ.holds s.heap j v → lt j k = false) → Q .none { s with heap := sortedHeap s.heap a vs out }) :
    wpAny (model P w) A (call (.builtin "list.sort") [.ref a]) Q E s := by
  have all : ∀ v ∈ vs, ∃ k, κ.holds s.heap k v := fun v m => let ⟨k, x, _⟩ := all0 v m; ⟨k, x⟩
  refine wpAny_call_entry slot_list_sort ⟨_, ho, rfl⟩ entry_list_sort ?_ (args_list_sort _)
  refine SK.plain_sort (r := rank κ lt s.heap vs) ho few (fun two R hR => ?_) fun ps out h1 h2 h3 => ⟨_, rfl, ?_⟩
  · have keep := class_apart (h := s.heap) ho
    refine C (s := { s with heap := TS.midHeap s.heap a vs }) two (fun v m => let ⟨k, x, g⟩ := all0 v m; ⟨k, κ.stay x keep, g⟩) fun sk hc => hR sk fun x y hx hy Q' E' q => ?_
    rw [pairsOf_toList] at hx hy
    have mx := (mem_zip_self hx).2
    have my := (mem_zip_self hy).2
    obtain ⟨k, xk⟩ := all _ mx
    obtain ⟨j, xj⟩ := all _ my
    rw [rank_lt O all mx xk xj] at q
    exact hc _ mx _ my k j (κ.stay xk keep) (κ.stay xj keep) Q' E' q
  · obtain ⟨p, o⟩ := TS.out_rank h1 h2 h3
    refine h out p (List.Pairwise.imp_of_mem (fun {u v} hu hv le k j xk xj => ?_) o)
    rw [← rank_lt O all (p.mem_iff.mp hv) xj xk, decide_eq_false_iff_not]
    omega

theorem sort_set {lt : K → K → Bool} {good : K → Prop} (C : Cmps κ lt good) (O : Ord lt) {a : Addr} {L : List (Value × K)} {Q : Value → Shared → Prop} (S : SetAt κ s.heap a L) (gd : ∀ p ∈ L, good p.2) (hh : A.handled = none)
    (hQ : ∀ s' p (out : Array Value) (c : Nat) (M : List (Value × K)), (∀ b o, s.heap.get? b = some o → s'.heap.get? b = some o) → s'.gens = s.gens → s'.os = s.os → s.heap.objs.size ≤ p →
      s'.heap.get? p = some (seqObj "list" out c) → out.toList = M.map Prod.fst → M.Perm L → M.Pairwise (fun q r => lt q.2 r.2 = true) → Q (.ref p) s') :
    wpAny (model P w) A (call (.builtin "sorted") [.ref a]) Q E s := by
  obtain ⟨o, es, ep, t, R⟩ := S
  have size := rows_len R.rows
  have fewL := R.few
  refine Calls.call_function_entry kind_sorted plain_sorted entry_sorted (args_sorted1 _) ?_
  unfold Builtin.«sorted»
  refine wpAny_bind (m := checkCount "sorted" 1 1 _) (wpAny_pure ?_)
  refine wpAny_bind (collect_set (A := A.in1) hh ⟨o, R.at_, R.exact_.1, R.dat⟩ R.fit (by unfold scanBound; omega) R.up R.lead fun s1 vs k1 hz g1 o1 pm => ?_)
  have vals : es.toList.map (·.2) = L.map Prod.fst := by
    rw [R.rows, List.map_map]; rfl
  rw [vals] at pm
  have fewV : vs.length < 64 := by rw [pm.length_eq, List.length_map]; exact fewL
  have keep : ∀ b u, s.heap.get? b = some u → (s1.heap.push (seqObj "list" vs.toArray 0)).get? b = some u := fun b u e => Heap.get?_push_of_some _ (k1 b u e)
  have keyed : ∀ q ∈ L, κ.holds (s1.heap.push (seqObj "list" vs.toArray 0)) q.2 q.1 := fun q m => stay_all (R.mem q m) keep
  refine wpAny_bind (wpAny_newList ?_ (by rw [sizeLine_eq]; omega))
  have at1 : (s1.heap.push (seqObj "list" vs.toArray 0)).get? s1.heap.objs.size = some (seqObj "list" vs.toArray 0) := Heap.get?_push_size _ rfl
  refine wpAny_bind (wpAny_holding (sort_keys (s := { s1 with heap := s1.heap.push (seqObj "list" vs.toArray 0) }) C O at1 fewV (fun v m => ?_) fun out a1 a2 => ?_))
  · obtain ⟨q, hq, rfl⟩ := List.mem_map.mp (pm.mem_iff.mp m)
    exact ⟨q.2, keyed q hq, gd q hq⟩
  obtain ⟨c, hc⟩ := sortedHeap_at (vs := vs) (out := out) at1
  -- the rows of the values put out
  obtain ⟨M, e1, pM⟩ : ∃ M : List (Value × K), out.toList = M.map Prod.fst ∧ M.Perm L := by
    have z : out.toList.Perm (L.map Prod.fst) := a1.trans pm
    exact perm_back z
  have alone : M.Pairwise fun q r => q.2 ≠ r.2 := List.pairwise_map.mp ((pM.map Prod.snd).nodup_iff.mpr R.alone)
  have ups : M.Pairwise fun q r => lt q.2 r.2 = true := by
    rw [e1] at a2
    refine ((List.pairwise_map.mp a2).and alone).imp_of_mem fun {q r} hq hr ⟨z, ne⟩ => ?_
    have z1 := z q.2 r.2 (keyed q (pM.mem_iff.mp hq)) (keyed r (pM.mem_iff.mp hr))
    rcases O.tri q.2 r.2 with y | y | y
    · exact y
    · exact absurd y ne
    · rw [z1] at y; cases y
  refine wpAny_pure ⟨_, rfl, hQ _ s1.heap.objs.size out c M (fun b u e => ?_) g1 o1 hz hc e1 pM ups⟩
  have q := k1 b u e
  have below := Heap.lt_size q
  show (sortedHeap (s1.heap.push (seqObj "list" vs.toArray 0)) s1.heap.objs.size vs out).get? b = some u
  rw [sortedHeap_old (Nat.ne_of_lt below) (by rw [size_push']; exact Nat.lt_succ_of_lt below)]
  exact keep b u e
end
end DL.KS

set_option Elab.async false
set_option linter.all false
set_option maxRecDepth 100000
set_option maxHeartbeats 1000000
namespace DL.KS
open PySem PySem.Spec PyProof.Rows L2
variable {P : Program} {w : World} {K : Type} [DecidableEq K]

def kV (knd : PySem.KeyKind P w K) : Kd P w K where
  holds _ k v := knd.is k v = true
  code := knd.hash
  calm _ := True
  also _ _ := True
  one := fun h g => knd.inj _ _ _ h g
  stay := fun h _ => h

section
variable {A : Around} {E : Value → Shared → Prop} {s : Shared} {a : Addr} {knd : PySem.KeyKind P w K} {L : List (Value × K)}
theorem put_tail {g : Bool → Sem Unit} (hg : ∀ (b : Bool) (s₁ : Shared) (R : Unit → Shared → Prop), R () s₁ → wpAny (model P w) A (g b) R E s₁) {o : Obj} {es : Array (Int × Value)} {ep : Nat} {t : SetTable}
    (ho : s.heap.get? a = some o) (hx : o.ExactSet) (hd : o.data = .set es ep t) {es1 : Array (Int × Value)} {t1 : SetTable} {d : Bool} (rows : es1.toList = L.map (kV knd).row) (alone : (L.map Prod.snd).Nodup)
    (mem : ∀ p ∈ L, knd.is p.2 p.1 = true) (fit : t1.fits es1.size = true) (up : Ris t1.place.toList) (lead : w.params.followText "set-order" = true ∨ t1.led = true) (few : L.length < 64) {Q : Option Bool → Shared → Prop}
    (hQ : ∀ h' L', Heap.SameBut a s.heap h' → SetAt (kV knd) h' a L' → L'.Perm L → Q (some true) { s with heap := h' }) :
    wpAny (model P w) A (do
        storeSet a es1 t1
        if (!d && t1.tooFull) = true then do
            g (relayAll t1 es1 (SetTable.grown es1.size)).2.2
            storeSet a (relayAll t1 es1 (SetTable.grown es1.size)).1 (relayAll t1 es1 (SetTable.grown es1.size)).2.1
            pure (some true)
          else pure (some true)) Q E s := by
  have n1 := rows_len rows
  have at1 := L2.store_at (es' := es1) (t' := t1) ho hd
  have sb1 := Heap.SameBut.update s.heap a (Obj.putSet es1 t1)
  refine wpAny_bind (wpAny_storeSet_of ho hd ?_ (by rw [n1, sizeLine_eq]; omega))
  split
  · have pm := relayAll_perm t1 es1 (SetTable.grown es1.size)
    have f2 := relayAll_fits t1 es1 (SetTable.grown es1.size)
    have u2 := relayAll_ris t1 es1 (SetTable.grown es1.size)
    have l2 := relayAll_led t1 es1 (SetTable.grown es1.size)
    generalize relayAll t1 es1 (SetTable.grown es1.size) = Z at pm f2 u2 l2 ⊢
    obtain ⟨es2, t2, gave⟩ := Z
    dsimp only at pm f2 u2 l2 ⊢
    rw [rows] at pm
    obtain ⟨M, r2, pM⟩ := perm_back pm
    have n2 := rows_len r2
    rw [pM.length_eq] at n2
    refine wpAny_bind (hg _ _ _ (wpAny_bind (wpAny_storeSet_of at1 rfl ?_ (by rw [n2, sizeLine_eq]; omega))))
    have at2 := L2.store_at (es' := es2) (t' := t2) at1 rfl
    exact wpAny_pure (hQ _ M (sb1.trans (Heap.SameBut.update _ a _)) ⟨_, es2, _, t2, at2, hx, rfl, r2, (pM.map Prod.snd).nodup_iff.mpr alone, fun p m => mem p (pM.mem_iff.mp m), f2, u2, by rw [l2]; exact lead, by rw [pM.length_eq]; exact few, trivial⟩ pM)
  · exact wpAny_pure (hQ _ L sb1 ⟨_, es1, _, t1, at1, hx, rfl, rows, alone, mem, fit, up, lead, few, trivial⟩ (List.Perm.refl _))

theorem put_flat (sc : ∀ k v, knd.is k v = true → v.scannable = true) {x : Value} {k : K} (S : SetAt (kV knd) s.heap a L) (hk : knd.is k x = true) (few : k ∉ L.map Prod.snd → L.length + 1 < 64) {Q : Bool → Shared → Prop}
    (hQ : ∀ c h' L', Heap.SameBut a s.heap h' → SetAt (kV knd) h' a L' → (k ∈ L.map Prod.snd → L' = L) → (k ∉ L.map Prod.snd → L'.Perm ((x, k) :: L)) → Q c { s with heap := h' }) :
    wpAny (model P w) A (setAddHashed a x (knd.hash k)) Q E s := by
  obtain ⟨o, es, ep, t, R⟩ := id S
  have size := rows_len R.rows
  have fewL := R.few
  have bound : es.size < scanBound := by unfold scanBound; omega
  have els : ElemsOf knd es.toList := fun e he => by
    rw [R.rows] at he
    obtain ⟨p, hp, rfl⟩ := List.mem_map.mp he
    exact ⟨⟨p.2, R.mem p hp, rfl⟩, sc _ _ (R.mem p hp)⟩
  unfold setAddHashed setAddHashedIn
  refine wpAny_holding (wpAny_bind (wpAny_setState_of R.at_ R.dat R.fit ?_))
  dsimp only
  rw [byScan_of (sc _ _ hk) bound els]
  simp only [↓reduceIte]
  unfold setAddByScan
  refine wpAny_bind (wpAny_bind (wpAny_rule (wpAny_bind (wpAny_setScan_of hk R.at_ R.dat R.fit els ?_))))
  cases hf : List.findIdx? (fun e => knd.is k e.2) es.toList with
  | some j =>
    obtain ⟨hj, pj, _⟩ := List.findIdx?_eq_some_iff_getElem.mp hf
    have me : es.toList[j] ∈ L.map (kV knd).row := by rw [← R.rows]; exact List.getElem_mem hj
    obtain ⟨p, hp, e⟩ := List.mem_map.mp me
    rw [← e] at pj
    have kin : k ∈ L.map Prod.snd := List.mem_map.mpr ⟨p, hp, knd.inj _ _ _ (R.mem p hp) pj⟩
    dsimp only
    exact wpAny_pure (wpAny_pure (hQ false s.heap L (Heap.SameBut.refl a s.heap) S (fun _ => rfl) fun z => absurd kin z))
  | none =>
    have nk : k ∉ L.map Prod.snd := fun z => by
      obtain ⟨p, hp, e⟩ := List.mem_map.mp z
      have c := List.findIdx?_eq_none_iff.mp hf ((kV knd).row p) (by rw [R.rows]; exact List.mem_map_of_mem hp)
      have q := R.mem p hp
      rw [e] at q
      have q2 : knd.is k p.1 = true := q
      rw [show knd.is k ((kV knd).row p).2 = knd.is k p.1 from rfl, q2] at c
      cases c
    dsimp only
    have pm := layNew_perm t es (knd.hash k) x
    have f1 := layNew_fits t es (knd.hash k) x
    have u1 := layNew_ris t es (knd.hash k) x R.up
    have l1 := layNew_led t es (knd.hash k) x
    generalize layNew t es (knd.hash k) x = Z at pm f1 u1 l1 ⊢
    obtain ⟨es1, t1, d, gave⟩ := Z
    dsimp only at pm f1 u1 l1 ⊢
    rw [Array.toList_push, R.rows] at pm
    obtain ⟨M, r1, pM⟩ := perm_back (L := (x, k) :: L) (f := (kV knd).row) (pm.trans (List.perm_append_singleton _ _))
    have alone : (M.map Prod.snd).Nodup := (pM.map Prod.snd).nodup_iff.mpr (List.nodup_cons.mpr ⟨nk, R.alone⟩)
    have mem : ∀ p ∈ M, knd.is p.2 p.1 = true := fun p m => by
      rcases List.mem_cons.mp (pM.mem_iff.mp m) with rfl | z
      · exact hk
      · exact R.mem p z
    have lead : w.params.followText "set-order" = true ∨ t1.led = true := by rw [l1]; exact R.lead
    have fewM : M.length < 64 := by rw [pM.length_eq]; exact few nk
    have said : ∀ (b : Bool) {s₁ : Shared} {R' : Unit → Shared → Prop}, R' () s₁ → wpAny (model P w) A (match b with | true => rule "set.scan.the-table-gave-way" | false => pure ()) R' E s₁ :=
      fun b s₁ R' q => by cases b <;> first | exact wpAny_pure q | exact wpAny_rule q
    have fin : ∀ h' L', Heap.SameBut a s.heap h' → SetAt (kV knd) h' a L' → L'.Perm M → Q true { s with heap := h' } := fun h' L' sb S' p => hQ true h' L' sb S' (fun z => absurd z nk) fun _ => p.trans pM
    refine wpAny_bind (said _ ?_)
    split
    · refine wpAny_bind ?_
      rw [hashByValue_scannable 8 (sc _ _ hk)]
      refine wpAny_pure ?_
      refine put_tail ?_ R.at_ R.exact_ R.dat r1 alone mem ?_ ?_ ?_ fewM ?_
      · intro b s₁ R' q; cases b <;> first | exact wpAny_pure q | exact wpAny_rule q
      · split <;> first | exact f1 | exact SetTable.fits_plain_off f1
      · split <;> exact u1
      · split <;> exact lead
      · intro h' L' sb S' p; dsimp only; exact wpAny_pure (fin h' L' sb S' p)
    · refine wpAny_bind (wpAny_pure ?_)
      simp only [↓reduceIte]
      refine put_tail ?_ R.at_ R.exact_ R.dat r1 alone mem f1 u1 lead fewM ?_
      · intro b s₁ R' q; cases b <;> first | exact wpAny_pure q | exact wpAny_rule q
      · intro h' L' sb S' p; dsimp only; exact wpAny_pure (fin h' L' sb S' p)
end
theorem takes_flat {knd : PySem.KeyKind P w K} (sc : ∀ k v, knd.is k v = true → v.scannable = true) : Takes (kV knd) := by
  intro A E s a x k L Q _ hk S few hQ
  unfold setAdd
  refine wpAny_holding (wpAny_bind (knd.pyHash hk ?_))
  exact put_flat (s := { s with toks := s.toks + 1 }) sc S hk few fun c h' L' sb S1 c1 c2 => hQ c h' _ L' (Nat.le_succ _) sb S1 c1 c2

def sLt (a b : Str) : Bool := decide (a.cps.toList < b.cps.toList)
theorem ord_str : Ord sLt where
  irr a := by unfold sLt; simpa using List.lt_irrefl a.cps.toList
  trans a b c h g := by
    unfold sLt at *
    rw [decide_eq_true_eq] at *
    exact List.lt_trans h g
  tri a b := by
    unfold sLt
    rw [decide_eq_true_eq, decide_eq_true_eq]
    by_cases h : a.cps.toList < b.cps.toList
    · exact .inl h
    by_cases g : b.cps.toList < a.cps.toList
    · exact .inr (.inr g)
    have e := List.le_antisymm (List.not_lt.mp g) (List.not_lt.mp h)
    refine .inr (.inl ?_)
    cases a; cases b
    exact congrArg Str.mk (Array.toList_inj.mp e)
def iLt (a b : Int) : Bool := decide (a < b)
theorem ord_int : Ord iLt where
  irr a := by unfold iLt; simp
  trans a b c h g := by unfold iLt at *; rw [decide_eq_true_eq] at *; omega
  tri a b := by unfold iLt; rw [decide_eq_true_eq, decide_eq_true_eq]; omega
def tLt : List Str → List Str → Bool
  | [], [] => false
  | [], _ :: _ => true
  | _ :: _, [] => false
  | a :: r, b :: q => if a = b then tLt r q else sLt a b
theorem tLt_irr : ∀ a, tLt a a = false
  | [] => rfl
  | a :: r => by rw [tLt, if_pos rfl]; exact tLt_irr r
theorem tLt_trans : ∀ a b c, tLt a b = true → tLt b c = true → tLt a c = true
  | [], [], _, h, _ => by cases h
  | [], _ :: _, [], _, g => by cases g
  | [], _ :: _, _ :: _, _, _ => rfl
  | _ :: _, [], _, h, _ => by cases h
  | _ :: _, _ :: _, [], _, g => by cases g
  | a :: r, b :: q, c :: p, h, g => by
    rw [tLt] at h g ⊢
    by_cases e : a = b
    · subst e
      rw [if_pos rfl] at h
      by_cases f : a = c
      · rw [if_pos f] at g ⊢; exact tLt_trans r q p h g
      · rw [if_neg f] at g ⊢; exact g
    · rw [if_neg e] at h
      by_cases f : b = c
      · subst f
        rw [if_neg e]; exact h
      · rw [if_neg f] at g
        have z := ord_str.trans _ _ _ h g
        rw [if_neg]
        · exact z
        · intro y
          subst y
          rw [ord_str.irr] at z
          cases z
theorem tLt_tri : ∀ a b, tLt a b = true ∨ a = b ∨ tLt b a = true
  | [], [] => .inr (.inl rfl)
  | [], _ :: _ => .inl rfl
  | _ :: _, [] => .inr (.inr rfl)
  | a :: r, b :: q => by
    rw [tLt, tLt]
    by_cases e : a = b
    · subst e
      rw [if_pos rfl, if_pos rfl]
      rcases tLt_tri r q with h | h | h
      · exact .inl h
      · exact .inr (.inl (by rw [h]))
      · exact .inr (.inr h)
    · rw [if_neg e, if_neg fun z => e z.symm]
      rcases ord_str.tri a b with h | h | h
      · exact .inl h
      · exact absurd h e
      · exact .inr (.inr h)
theorem ord_tup : Ord tLt := ⟨tLt_irr, tLt_trans, tLt_tri⟩

section
variable {A : Around} {E : Value → Shared → Prop} {s : Shared}
theorem one_text (c : Bool) {a b : Str} {t u : Tok} {Q : Bool → Shared → Prop} (h : Q (sLt a b) s) : wpAny (model P w) A (oneLt' c (.str a t) (.str b u)) Q E s := by
  cases c with
  | true => exact oneLt_str h
  | false => exact PySem.W.kat_one _ _ (PyProof.Rows.lt_str (Q := PySem.W.BoolBack Q) h)
theorem lex_texts {b fin : Bool} {Q : Bool → Shared → Prop} {ns ms : List Str} {xs ys : List Value} (i : Nat) (hx : ItemsAre (PySem.strKind P w) ns xs) (hy : ItemsAre (PySem.strKind P w) ms ys)
    (hf : fin = decide (xs.length < ys.length)) (h : Q (tLt ns ms) s) : PySem.W.KatLex P w A b fin Q (xs.zip ys) i s := by
  induction hx generalizing ys ms i with
  | nil =>
    refine PySem.W.kat_nil ?_
    rw [hf]
    cases hy with
    | nil => exact h
    | cons q u =>
      rw [decide_eq_true (by simp)]
      exact h
  | @cons k v ks vs h1 hx ih =>
    cases hy with
    | nil =>
      refine PySem.W.kat_nil ?_
      rw [hf, decide_eq_false (by simp)]
      exact h
    | @cons j u js us h2 hy =>
      obtain ⟨t, rfl⟩ := Value.isStrOf_shape h1
      obtain ⟨t', rfl⟩ := Value.isStrOf_shape h2
      show PySem.W.KatLex P w A b fin Q ((Value.str k t, Value.str j t') :: vs.zip us) i s
      refine PySem.W.kat_cons (wpAny_eqBool_str ?_)
      rw [tLt] at h
      by_cases e : k = j
      · rw [if_pos e] at h
        rw [decide_eq_true e]
        exact PySem.W.kat_yes (ih (i + 1) hy (by rw [hf]; simp) h)
      · rw [if_neg e] at h
        rw [decide_eq_false e]
        exact PySem.W.kat_no (one_text _ h)
end
theorem firsts {h : Heap} : ∀ vs : List Value, (∀ v ∈ vs, ∃ k, (kT P w).holds h k v ∧ k ≠ []) → ∃ fs, PySem.W.KatTups h vs fs ∧ fs.length = vs.length ∧ ∀ f ∈ fs, ∃ x u, f = Value.str x u
  | [], _ => ⟨[], PySem.W.KatTups.nil, rfl, fun f m => nomatch m⟩
  | v :: vs, g => by
    obtain ⟨fs, h1, h2, h3⟩ := firsts vs fun u m => g u (List.mem_cons_of_mem _ m)
    obtain ⟨k, ⟨b, rfl, o, its, n, ho, hc, hd, hi⟩, ne⟩ := g v List.mem_cons_self
    have texts := texts_shape hi
    cases e : its.toList with
    | nil =>
      rw [e] at hi
      cases hi
      exact absurd rfl ne
    | cons y ys =>
      have z := congrArg (fun l : List Value => l[0]?) e
      refine ⟨y :: fs, PySem.W.KatTups.cons ho hc hd (by simpa using z) h1, by simp [h2], fun f m => ?_⟩
      rcases List.mem_cons.mp m with rfl | m
      · exact texts f (by rw [e]; exact List.mem_cons_self)
      · exact h3 f m
theorem cmps_tups : Cmps (kT P w) tLt (· ≠ []) := by
  intro A E s vs Q two all hQ
  obtain ⟨fs, h1, h2, h3⟩ := firsts vs all
  refine PySem.W.kat_kind (T := Value.type "str") h1 (by omega) (fun f m => ?_) rfl (hQ _ fun u hu v hv k j hk hj C E' q => ?_)
  · obtain ⟨x, t, rfl⟩ := h3 f m
    exact PySem.W.Looks.of_pure rfl
  · obtain ⟨b, rfl, o, xs, n, ho, hc, hd, hi⟩ := hk
    obtain ⟨b', rfl, o', ys, n', ho', hc', hd', hi'⟩ := hj
    refine PySem.W.kat_lt ho hd ho' hd' (lex_texts 0 hi hi' ?_ q)
    rw [Array.length_toList, Array.length_toList]
theorem strs_are : ∀ vs : List Value, (∀ v ∈ vs, ∃ x u, v = Value.str x u) → ∃ xs, StrsAre vs xs
  | [], _ => ⟨[], .nil⟩
  | v :: vs, h => by
    obtain ⟨x, u, rfl⟩ := h v List.mem_cons_self
    obtain ⟨xs, r⟩ := strs_are vs fun y m => h y (List.mem_cons_of_mem _ m)
    exact ⟨x :: xs, .cons x u r⟩
theorem cmps_strs : Cmps (kV (PySem.strKind P w)) sLt (fun _ => True) := by
  intro A E s vs Q two all hQ
  obtain ⟨xs, r⟩ := strs_are vs fun v m => by
    obtain ⟨k, hk, _⟩ := all v m
    obtain ⟨t, e⟩ := Value.isStrOf_shape hk
    exact ⟨k, t, e⟩
  match vs, two, all, hQ, r with
  | v1 :: v2 :: vs, two, all, hQ, r =>
    rw [keyKind_strs r]
    refine wpAny_pure (hQ _ fun u hu v hv k j hk hj C E' q => ?_)
    obtain ⟨t, rfl⟩ := Value.isStrOf_shape hk
    obtain ⟨t', rfl⟩ := Value.isStrOf_shape hj
    rw [keyLt'_oneType]
    exact one_text true q
end DL.KS

set_option Elab.async false
set_option linter.all false
set_option maxRecDepth 100000
set_option maxHeartbeats 1000000
namespace DL
open PySem L2

inductive D where
  | non | bl (b : Bool) | int (i : Int) | str (s : Str) | tup (ds : List D) | seq (ds : List D) | ref (n : Nat)
inductive O where
  | lst (ds : List D)
  | dct (kvs : List (Key × D))
  | ins (c : Str) (fs : List (Str × D))
  | st (ds : List D)
abbrev Sto := List O
inductive R (α : Type) where
  | ok (a : α) (S : Sto)
  | exc (c : Str) (S : Sto)
  | bad
def R.bind {α β : Type} : R α → (α → Sto → R β) → R β
  | .ok a S, k => k a S
  | .exc c S, _ => .exc c S
  | .bad, _ => .bad
@[simp] theorem R.bind_ok {α β : Type} (a : α) (S : Sto) (k : α → Sto → R β) : (R.ok a S).bind k = k a S := rfl
@[simp] theorem R.bind_exc {α β : Type} (c : Str) (S : Sto) (k : α → Sto → R β) : (R.exc c S : R α).bind k = .exc c S := rfl
@[simp] theorem R.bind_bad {α β : Type} (k : α → Sto → R β) : (R.bad : R α).bind k = .bad := rfl
structure Gc where
  K : PySem.W.Frag
  cA : Str → Option Addr
  xA : Str → Option Addr

def KL (K : PySem.W.Frag) (a : Addr) (xs : List V) : Prop :=
  ∃ (o : Obj) (its : Array Value) (n : Nat), K.lookup a = some o ∧ o.cls = .type "list" ∧ o.dict = none ∧ o.data = .seq its n ∧ its.size ≤ sizeLine ∧ Vals xs its.toList
def TupA (μ : List Addr) (H : Hp) (a : Addr) (xs : List V) : Prop := a ∉ μ ∧ Rd H a (.tup xs)
def BareA (H : Hp) (a : Addr) (xs : List V) : Prop := ∃ o, H a = some (.frz o (.tup xs)) ∧ o.dict = none
def txts : List D → Bool
  | [] => true
  | .str _ :: r => txts r
  | _ :: _ => false
def LstA (K : PySem.W.Frag) (μ : List Addr) (H : Hp) (a : Addr) (xs : List V) : Prop := (a ∉ μ ∧ ∃ o, H a = some (.frz o (.lst xs))) ∨ KL K a xs
theorem TupA.sq {K : PySem.W.Frag} {μ : List Addr} {H : Hp} {a : Addr} {xs : List V} (h : TupA μ H a xs) : SqT K H a xs := .inl h.2
theorem LstA.sq {K : PySem.W.Frag} {μ : List Addr} {H : Hp} {a : Addr} {xs : List V} (h : LstA K μ H a xs) : SqL K H a xs := h.elim (fun h => .inl (.inr h.2)) .inr
theorem LstA.of {K : PySem.W.Frag} {H : Hp} {a : Addr} {xs : List V} (hO : Only H) (h : SqL K H a xs) : LstA K [] H a xs := by
  rcases h with (h | h) | h
  · rcases hO a with z | ⟨o, ys, z⟩
    · rw [z] at h; cases h
    · rw [z] at h; cases h
  · exact .inl ⟨by simp, h⟩
  · exact .inr h

structure Gr (μ : List Addr) (H : Hp) (μ' : List Addr) (H' : Hp) : Prop where
  pre : ∃ ν, μ' = μ ++ ν ∧ ∀ a ∈ ν, H a = none
  keep : ∀ a o, a ∉ μ → H a = some o → H' a = some o
  live : ∀ a, H' a = none → H a = none
theorem Gr.refl {μ : List Addr} {H : Hp} : Gr μ H μ H := ⟨⟨[], by simp, by simp⟩, fun _ _ _ h => h, fun _ h => h⟩
theorem Gr.notin {μ μ' : List Addr} {H H' : Hp} (g : Gr μ H μ' H') {a : Addr} {o : HO} (h : H a = some o) (n : a ∉ μ) : a ∉ μ' := by
  obtain ⟨ν, e, hn⟩ := g.pre
  rw [e]
  intro m
  rcases List.mem_append.mp m with m | m
  · exact n m
  · rw [hn a m] at h
    cases h
theorem Gr.trans {μ μ1 μ2 : List Addr} {H H1 H2 : Hp} (a : Gr μ H μ1 H1) (b : Gr μ1 H1 μ2 H2) : Gr μ H μ2 H2 := by
  refine ⟨?_, fun c o n h => b.keep c o (a.notin h n) (a.keep c o n h), fun c h => a.live c (b.live c h)⟩
  obtain ⟨ν, e, hn⟩ := a.pre
  obtain ⟨ν', e', hn'⟩ := b.pre
  refine ⟨ν ++ ν', by rw [e', e, List.append_assoc], fun c m => ?_⟩
  rcases List.mem_append.mp m with m | m
  · exact hn c m
  · exact a.live c (hn' c m)
def imm : HO → Bool
  | .tup _ => true
  | .frz _ _ => true
  | _ => false
structure Gi (μ : List Addr) (H : Hp) (μ' : List Addr) (H' : Hp) : Prop where
  pre : ∃ ν, μ' = μ ++ ν ∧ ∀ a ∈ ν, ∀ o, H a = some o → imm o = false
  keep : ∀ a o, a ∉ μ → H a = some o → imm o = true → H' a = some o
theorem Gr.i {μ μ' : List Addr} {H H' : Hp} (g : Gr μ H μ' H') : Gi μ H μ' H' := by
  obtain ⟨ν, e, hn⟩ := g.pre
  exact ⟨⟨ν, e, fun a m o h => by rw [hn a m] at h; cases h⟩, fun a o n h _ => g.keep a o n h⟩
theorem Gi.notin {μ μ' : List Addr} {H H' : Hp} (g : Gi μ H μ' H') {a : Addr} {o : HO} (h : H a = some o) (i : imm o = true) (n : a ∉ μ) : a ∉ μ' := by
  obtain ⟨ν, e, hn⟩ := g.pre
  rw [e]
  intro m
  rcases List.mem_append.mp m with m | m
  · exact n m
  · rw [hn a m o h] at i
    cases i
theorem Gi.get {μ μ' : List Addr} {H H' : Hp} (g : Gi μ H μ' H') {n : Nat} {a : Addr} (h : μ[n]? = some a) : μ'[n]? = some a := by
  obtain ⟨ν, e, _⟩ := g.pre
  rw [e, List.getElem?_append_left (List.getElem?_eq_some_iff.mp h).1]
  exact h
theorem TupA.monoI {μ μ' : List Addr} {H H' : Hp} (g : Gi μ H μ' H') {a : Addr} {xs : List V} (h : TupA μ H a xs) : TupA μ' H' a xs :=
  h.2.elim (fun e => ⟨g.notin e rfl h.1, .inl (g.keep _ _ h.1 e rfl)⟩) fun ⟨o, e⟩ => ⟨g.notin e rfl h.1, .inr ⟨o, g.keep _ _ h.1 e rfl⟩⟩
theorem BareA.monoI {μ μ' : List Addr} {H H' : Hp} (g : Gi μ H μ' H') {a : Addr} {xs : List V} (n : a ∉ μ) : BareA H a xs → BareA H' a xs := fun ⟨o, e, d⟩ => ⟨o, g.keep _ _ n e rfl, d⟩
theorem LstA.monoI {K : PySem.W.Frag} {μ μ' : List Addr} {H H' : Hp} (g : Gi μ H μ' H') {a : Addr} {xs : List V} (h : LstA K μ H a xs) : LstA K μ' H' a xs :=
  h.elim (fun ⟨n, o, h⟩ => .inl ⟨g.notin h rfl n, o, g.keep _ _ n h rfl⟩) .inr
theorem Gr.get {μ μ' : List Addr} {H H' : Hp} (g : Gr μ H μ' H') {n : Nat} {a : Addr} (h : μ[n]? = some a) : μ'[n]? = some a := by
  obtain ⟨ν, e, _⟩ := g.pre
  rw [e, List.getElem?_append_left (List.getElem?_eq_some_iff.mp h).1]
  exact h
theorem Gr.new {μ : List Addr} {H : Hp} {p : Addr} {o : HO} (h : H p = none) : Gr μ H μ (upd H p o) := by
  refine ⟨⟨[], by simp, by simp⟩, fun a u _ e => ?_, fun a e => ?_⟩
  · rw [upd_ne (ne_of_none e h)]
    exact e
  · by_cases q : a = p
    · rw [q]
      exact h
    · rw [upd_ne q] at e
      exact e
theorem Gr.obj {μ : List Addr} {H : Hp} {p : Addr} {o : HO} (h : H p = none) : Gr μ H (μ ++ [p]) (upd H p o) := by
  refine ⟨⟨[p], rfl, fun a m => by rw [List.mem_singleton.mp m]; exact h⟩, (Gr.new h).keep, (Gr.new (μ := μ) h).live⟩
theorem Gr.write {μ : List Addr} {H : Hp} {p : Addr} {o : HO} (h : p ∈ μ) : Gr μ H μ (upd H p o) := by
  refine ⟨⟨[], by simp, by simp⟩, fun a u n e => ?_, fun a e => ?_⟩
  · rw [upd_ne fun q : a = p => n (by rw [q]; exact h)]
    exact e
  · by_cases q : a = p
    · rw [q, upd_same] at e
      cases e
    · rw [upd_ne q] at e
      exact e

mutual
inductive RV (K : PySem.W.Frag) (μ : List Addr) (H : Hp) : V → D → Prop
  | non : RV K μ H .non .non
  | bl (b : Bool) : RV K μ H (.bl b) (.bl b)
  | int (i : Int) : RV K μ H (.int i) (.int i)
  | str (x : Str) : RV K μ H (.str x) (.str x)
  | tup {a : Addr} {xs : List V} {ds : List D} : TupA μ H a xs → (txts ds = true → BareA H a xs) → RVs K μ H xs ds → RV K μ H (.ref a) (.tup ds)
  | seq {a : Addr} {xs : List V} {ds : List D} : LstA K μ H a xs → RVs K μ H xs ds → RV K μ H (.ref a) (.seq ds)
  | ref {n : Nat} {a : Addr} : μ[n]? = some a → RV K μ H (.ref a) (.ref n)
inductive RVs (K : PySem.W.Frag) (μ : List Addr) (H : Hp) : List V → List D → Prop
  | nil : RVs K μ H [] []
  | cons {v : V} {vs : List V} {d : D} {ds : List D} : RV K μ H v d → RVs K μ H vs ds → RVs K μ H (v :: vs) (d :: ds)
end
section
variable {K : PySem.W.Frag} {μ μ' : List Addr} {H H' : Hp}
mutual
theorem RV.monoI (g : Gi μ H μ' H') : ∀ {v : V} {d : D}, RV K μ H v d → RV K μ' H' v d
  | _, _, .non => .non
  | _, _, .bl b => .bl b
  | _, _, .int i => .int i
  | _, _, .str x => .str x
  | _, _, .tup t b r => .tup (t.monoI g) (fun e => (b e).monoI g t.1) (RVs.monoI g r)
  | _, _, .seq t r => .seq (t.monoI g) (RVs.monoI g r)
  | _, _, .ref e => .ref (g.get e)
theorem RVs.monoI (g : Gi μ H μ' H') : ∀ {vs : List V} {ds : List D}, RVs K μ H vs ds → RVs K μ' H' vs ds
  | _, _, .nil => .nil
  | _, _, .cons h t => .cons (RV.monoI g h) (RVs.monoI g t)
end
theorem RV.mono (g : Gr μ H μ' H') {v : V} {d : D} (h : RV K μ H v d) : RV K μ' H' v d := h.monoI g.i
theorem RVs.mono (g : Gr μ H μ' H') {vs : List V} {ds : List D} (h : RVs K μ H vs ds) : RVs K μ' H' vs ds := h.monoI g.i
theorem RVs.length : ∀ {vs : List V} {ds : List D}, RVs K μ H vs ds → vs.length = ds.length
  | _, _, .nil => rfl
  | _, _, .cons _ t => congrArg (· + 1) (RVs.length t)
theorem RVs.get : ∀ {vs : List V} {ds : List D} {i : Nat} {d : D}, RVs K μ H vs ds → ds[i]? = some d → ∃ v, vs[i]? = some v ∧ RV K μ H v d
  | _, _, _, _, .nil, e => by simp at e
  | _, _, 0, _, .cons h _, e => by simp at e; subst e; exact ⟨_, rfl, h⟩
  | _, _, i + 1, d, .cons _ t, e => by
    obtain ⟨v, h1, h2⟩ := RVs.get (i := i) (d := d) t (by simpa using e)
    exact ⟨v, by simpa using h1, h2⟩
theorem RVs.at : ∀ {vs : List V} {ds : List D} {i : Nat} {v : V}, RVs K μ H vs ds → vs[i]? = some v → ∃ d, ds[i]? = some d ∧ RV K μ H v d
  | _, _, _, _, .nil, e => by simp at e
  | _, _, 0, _, .cons h _, e => by simp at e; subst e; exact ⟨_, rfl, h⟩
  | _, _, i + 1, d, .cons _ t, e => by
    obtain ⟨v, h1, h2⟩ := RVs.at (i := i) (v := d) t (by simpa using e)
    exact ⟨v, by simpa using h1, h2⟩
theorem RVs.append : ∀ {vs ws : List V} {ds es : List D}, RVs K μ H vs ds → RVs K μ H ws es → RVs K μ H (vs ++ ws) (ds ++ es)
  | _, _, _, _, .nil, s => s
  | _, _, _, _, .cons h t, s => .cons h (RVs.append t s)
theorem RVs.take : ∀ {vs : List V} {ds : List D} (n : Nat), RVs K μ H vs ds → RVs K μ H (vs.take n) (ds.take n)
  | _, _, 0, _ => by rw [List.take_zero, List.take_zero]; exact .nil
  | _, _, _ + 1, .nil => .nil
  | _, _, n + 1, .cons h t => .cons h (RVs.take n t)
theorem RVs.drop : ∀ {vs : List V} {ds : List D} (n : Nat), RVs K μ H vs ds → RVs K μ H (vs.drop n) (ds.drop n)
  | _, _, 0, r => r
  | _, _, _ + 1, .nil => .nil
  | _, _, n + 1, .cons _ t => RVs.drop n t
theorem RVs.set {v : V} {d : D} (h : RV K μ H v d) : ∀ {vs : List V} {ds : List D} (n : Nat), RVs K μ H vs ds → RVs K μ H (vs.set n v) (ds.set n d)
  | _, _, _, .nil => .nil
  | _, _, 0, .cons _ t => .cons h t
  | _, _, n + 1, .cons q t => .cons q (RVs.set h n t)
theorem RVs.rep {vs : List V} {ds : List D} (h : RVs K μ H vs ds) : ∀ n : Nat, RVs K μ H (List.replicate n vs).flatten (List.replicate n ds).flatten
  | 0 => .nil
  | n + 1 => by
    rw [List.replicate_succ, List.replicate_succ, List.flatten_cons, List.flatten_cons]
    exact h.append (RVs.rep h n)
theorem RVs.ints : ∀ {vs : List V} {ns : List Int}, RVs K μ H vs (ns.map D.int) → vs = ns.map V.int
  | _, [], .nil => rfl
  | _, _ :: _, .cons (.int _) t => by rw [RVs.ints t]; rfl
theorem RVs.bls : ∀ {vs : List V} {ns : List Bool}, RVs K μ H vs (ns.map D.bl) → vs = ns.map V.bl
  | _, [], .nil => rfl
  | _, _ :: _, .cons (.bl _) t => by rw [RVs.bls t]; rfl
theorem RVs.strs : ∀ {vs : List V} {ns : List Str}, RVs K μ H vs (ns.map D.str) → vs = ns.map V.str
  | _, [], .nil => rfl
  | _, _ :: _, .cons (.str _) t => by rw [RVs.strs t]; rfl
end

inductive RKs (K : PySem.W.Frag) (μ : List Addr) (H : Hp) {κ : Type} : List (κ × V) → List (κ × D) → Prop
  | nil : RKs K μ H [] []
  | cons {k : κ} {v : V} {vs : List (κ × V)} {d : D} {ds : List (κ × D)} : RV K μ H v d → RKs K μ H vs ds → RKs K μ H ((k, v) :: vs) ((k, d) :: ds)
theorem RKs.monoI {K : PySem.W.Frag} {μ μ' : List Addr} {H H' : Hp} {κ : Type} (g : Gi μ H μ' H') : ∀ {vs : List (κ × V)} {ds : List (κ × D)}, RKs K μ H vs ds → RKs K μ' H' vs ds
  | _, _, .nil => .nil
  | _, _, .cons h t => .cons (h.monoI g) (RKs.monoI g t)
theorem RKs.mono {K : PySem.W.Frag} {μ μ' : List Addr} {H H' : Hp} {κ : Type} (g : Gr μ H μ' H') {vs : List (κ × V)} {ds : List (κ × D)} (h : RKs K μ H vs ds) : RKs K μ' H' vs ds := h.monoI g.i
theorem RKs.length {K : PySem.W.Frag} {μ : List Addr} {H : Hp} {κ : Type} : ∀ {vs : List (κ × V)} {ds : List (κ × D)}, RKs K μ H vs ds → vs.length = ds.length
  | _, _, .nil => rfl
  | _, _, .cons _ t => congrArg (· + 1) (RKs.length t)

def RO (G : Gc) (μ : List Addr) (H : Hp) (a : Addr) : O → Prop
  | .lst ds => ∃ xs, H a = some (.lst xs) ∧ RVs G.K μ H xs ds
  | .dct ds => ∃ ws, H a = some (.dK ws) ∧ RKs G.K μ H ws ds
  | .ins c fs => ∃ C dx ws, G.cA c = some C ∧ H a = some (.ins C dx ws) ∧ RKs G.K μ H ws fs
  | .st _ => False
structure HS (G : Gc) (μ : List Addr) (S : Sto) (H : Hp) : Prop where
  len : μ.length = S.length
  nd : μ.Nodup
  at_ : ∀ (n : Nat) (a : Addr) (o : O), μ[n]? = some a → S[n]? = some o → RO G μ H a o
section
variable {G : Gc} {μ μ' : List Addr} {S S' : Sto} {H H' : Hp}
theorem HS.there (h : HS G μ S H) {n : Nat} {a : Addr} (e : μ[n]? = some a) : ∃ o, S[n]? = some o ∧ RO G μ H a o := by
  have hn : n < μ.length := (List.getElem?_eq_some_iff.mp e).1
  have hs : n < S.length := by rw [← h.len]; exact hn
  exact ⟨S[n], List.getElem?_eq_getElem hs, h.at_ n a _ e (List.getElem?_eq_getElem hs)⟩
theorem RO.some {a : Addr} {o : O} (h : RO G μ H a o) : ∃ u, H a = some u := by
  cases o with
  | lst ds => obtain ⟨_, h, _⟩ := h; exact ⟨_, h⟩
  | dct ds => obtain ⟨_, h, _⟩ := h; exact ⟨_, h⟩
  | ins c fs => obtain ⟨_, _, _, _, h, _⟩ := h; exact ⟨_, h⟩
  | st ds => exact h.elim
theorem HS.mem (h : HS G μ S H) {a : Addr} (m : a ∈ μ) : ∃ u, H a = some u := by
  obtain ⟨n, e⟩ := List.getElem?_of_mem m
  obtain ⟨o, _, r⟩ := h.there e
  exact r.some
theorem HS.fresh (h : HS G μ S H) {a : Addr} (e : H a = none) : a ∉ μ := fun m => by
  obtain ⟨u, q⟩ := h.mem m
  rw [e] at q
  cases q
theorem RO.keepI (g : Gi μ H μ' H') {a : Addr} {o : O} (e : H' a = H a) (h : RO G μ H a o) : RO G μ' H' a o := by
  cases o with
  | lst ds => obtain ⟨xs, h, r⟩ := h; exact ⟨xs, e.trans h, r.monoI g⟩
  | dct ds => obtain ⟨xs, h, r⟩ := h; exact ⟨xs, e.trans h, r.monoI g⟩
  | ins c fs => obtain ⟨C, dx, ws, hc, h, r⟩ := h; exact ⟨C, dx, ws, hc, e.trans h, r.monoI g⟩
  | st ds => exact h
theorem RO.keep (g : Gr μ H μ' H') {a : Addr} {o : O} (e : H' a = H a) (h : RO G μ H a o) : RO G μ' H' a o := h.keepI g.i e
theorem HS.beside (h : HS G μ S H) {p : Addr} {u : HO} (hp : H p = none) : HS G μ S (upd H p u) := by
  refine ⟨h.len, h.nd, fun n a o e1 e2 => ?_⟩
  have r := h.at_ n a o e1 e2
  obtain ⟨v, hv⟩ := r.some
  exact r.keep (Gr.new hp) (upd_ne (ne_of_none hv hp))
theorem HS.grow (h : HS G μ S H) {p : Addr} {u : HO} {o : O} (hp : H p = none) (r : RO G (μ ++ [p]) (upd H p u) p o) : HS G (μ ++ [p]) (S ++ [o]) (upd H p u) := by
  refine ⟨by simp [h.len], ?_, fun n a o' e1 e2 => ?_⟩
  · rw [List.nodup_append]
    refine ⟨h.nd, by simp, fun a m b m' => ?_⟩
    rw [List.mem_singleton.mp m']
    rintro rfl
    exact h.fresh hp m
  · by_cases hn : n < μ.length
    · rw [List.getElem?_append_left hn] at e1
      rw [List.getElem?_append_left (by rw [← h.len]; exact hn)] at e2
      have r := h.at_ n a o' e1 e2
      obtain ⟨v, hv⟩ := r.some
      exact r.keep (Gr.obj hp) (upd_ne (ne_of_none hv hp))
    · have hn : μ.length ≤ n := Nat.le_of_not_lt hn
      rw [List.getElem?_append_right hn] at e1
      rw [List.getElem?_append_right (by rw [← h.len]; exact hn)] at e2
      have e0 : n - μ.length = 0 := by
        cases q : n - μ.length with
        | zero => rfl
        | succ m => rw [q] at e1; simp at e1
      rw [e0] at e1
      rw [← h.len, e0] at e2
      simp at e1 e2
      subst e1 e2
      exact r
theorem HS.last (h : HS G μ S H) {p : Addr} : (μ ++ [p])[S.length]? = some p := by
  rw [← h.len, List.getElem?_append_right (Nat.le_refl _)]
  simp
theorem HS.put (h : HS G μ S H) {n : Nat} {p : Addr} {u : HO} {o : O} (e : μ[n]? = some p) (r : RO G μ (upd H p u) p o) : HS G μ (S.set n o) (upd H p u) := by
  have hn : n < μ.length := (List.getElem?_eq_some_iff.mp e).1
  have hm : p ∈ μ := List.mem_of_getElem? e
  refine ⟨by simp [h.len], h.nd, fun m a o' e1 e2 => ?_⟩
  by_cases hmn : n = m
  · subst hmn
    rw [e] at e1
    cases e1
    rw [List.getElem?_set_self (by rw [← h.len]; exact hn)] at e2
    cases e2
    exact r
  · rw [List.getElem?_set_ne hmn] at e2
    have r' := h.at_ m a o' e1 e2
    refine r'.keep (Gr.write hm) (upd_ne fun q => hmn ?_)
    subst q
    exact nd_ix h.nd e e1
end

section
variable {G : Gc} {μ μ1 : List Addr} {S : Sto} {H H1 : Hp} {p : Addr} {xs ys : List V}
theorem Gi.aside (hp : H p = some (.lst xs)) : Gi μ H μ (upd H p (.lst ys)) := by
  refine ⟨⟨[], by simp, by simp⟩, fun a o n h i => ?_⟩
  rw [upd_ne]
  · exact h
  · rintro rfl
    rw [hp] at h
    cases h
    cases i
theorem HS.aside (h : HS G μ S H) (hp : H p = some (.lst xs)) (n : p ∉ μ) : HS G μ S (upd H p (.lst ys)) :=
  ⟨h.len, h.nd, fun m a o e1 e2 => (h.at_ m a o e1 e2).keepI (Gi.aside hp) (upd_ne fun q => n (by rw [← q]; exact List.mem_of_getElem? e1))⟩
theorem Gr.aside (g : Gr μ1 H1 μ H) (h1 : H1 p = none) {o : HO} : Gr μ1 H1 μ (upd H p o) := by
  refine ⟨g.pre, fun a u n e => ?_, fun a e => ?_⟩
  · rw [upd_ne (ne_of_none e h1)]
    exact g.keep a u n e
  · by_cases q : a = p
    · rw [q]
      exact h1
    · rw [upd_ne q] at e
      exact g.live a e
theorem Gi.join (hp : H p = some (.lst xs)) : Gi μ H (μ ++ [p]) H :=
  ⟨⟨[p], rfl, fun a m o e => by rw [List.mem_singleton.mp m, hp] at e; cases e; rfl⟩, fun _ _ _ h _ => h⟩
theorem Gr.join (g : Gr μ1 H1 μ H) (h1 : H1 p = none) : Gr μ1 H1 (μ ++ [p]) H := by
  obtain ⟨ν, e, hn⟩ := g.pre
  refine ⟨⟨ν ++ [p], by rw [e, List.append_assoc], fun a m => ?_⟩, g.keep, g.live⟩
  rcases List.mem_append.mp m with m | m
  · exact hn a m
  · rw [List.mem_singleton.mp m]
    exact h1
theorem HS.join (h : HS G μ S H) (hp : H p = some (.lst xs)) (n : p ∉ μ) {ds : List D} (r : RVs G.K μ H xs ds) : HS G (μ ++ [p]) (S ++ [.lst ds]) H := by
  refine ⟨by simp [h.len], ?_, fun m a o' e1 e2 => ?_⟩
  · rw [List.nodup_append]
    refine ⟨h.nd, by simp, fun a m b m' => ?_⟩
    rw [List.mem_singleton.mp m']
    rintro rfl
    exact n m
  · by_cases hn : m < μ.length
    · rw [List.getElem?_append_left hn] at e1
      rw [List.getElem?_append_left (by rw [← h.len]; exact hn)] at e2
      exact (h.at_ m a o' e1 e2).keepI (Gi.join hp) rfl
    · have hn : μ.length ≤ m := Nat.le_of_not_lt hn
      rw [List.getElem?_append_right hn] at e1
      rw [List.getElem?_append_right (by rw [← h.len]; exact hn)] at e2
      have e0 : m - μ.length = 0 := by
        cases q : m - μ.length with
        | zero => rfl
        | succ m => rw [q] at e1; simp at e1
      rw [e0] at e1
      rw [← h.len, e0] at e2
      simp at e1 e2
      subst e1 e2
      exact ⟨xs, hp, r.monoI (Gi.join hp)⟩
end

abbrev Env := List (Option D)
def SR (K : PySem.W.Frag) (μ : List Addr) (H : Hp) (σ : L2.St) (ε : Env) : Prop :=
  σ.length = ε.length ∧ ∀ (i : Nat) (d : D), ε[i]? = some (some d) → ∃ v, σ[i]? = some (some v) ∧ RV K μ H v d
section
variable {K : PySem.W.Frag} {μ μ' : List Addr} {H H' : Hp} {σ : L2.St} {ε : Env}
theorem SR.monoI (g : Gi μ H μ' H') (h : SR K μ H σ ε) : SR K μ' H' σ ε :=
  ⟨h.1, fun i d e => let ⟨v, e1, r⟩ := h.2 i d e; ⟨v, e1, r.monoI g⟩⟩
theorem SR.mono (g : Gr μ H μ' H') (h : SR K μ H σ ε) : SR K μ' H' σ ε := h.monoI g.i
theorem SR.set (h : SR K μ H σ ε) {v : V} {d : D} (r : RV K μ H v d) (i : Nat) : SR K μ H (σ.set i (some v)) (ε.set i (some d)) := by
  refine ⟨by simp [h.1], fun j e q => ?_⟩
  by_cases hi : i < ε.length
  · by_cases hj : i = j
    · subst hj
      rw [List.getElem?_set_self hi] at q
      cases q
      exact ⟨v, List.getElem?_set_self (by rw [h.1]; exact hi), r⟩
    · rw [List.getElem?_set_ne hj] at q
      obtain ⟨u, e1, r1⟩ := h.2 j e q
      exact ⟨u, by rw [List.getElem?_set_ne hj]; exact e1, r1⟩
  · have h1 : ε.set i (some d) = ε := List.set_eq_of_length_le (Nat.le_of_not_lt hi)
    have h2 : σ.set i (some v) = σ := List.set_eq_of_length_le (by rw [h.1]; exact Nat.le_of_not_lt hi)
    rw [h1] at q
    rw [h2]
    exact h.2 j e q
end
end DL

set_option Elab.async false
set_option linter.all false
set_option maxRecDepth 100000
set_option maxHeartbeats 1000000
namespace DL
open PySem PySem.Spec L2
abbrev NewT (H : Hp) (xs : List V) (Q : VK) : Prop := ∀ (p : Addr) (o : Obj), H p = none → o.dict = none → Q (.ref p) (upd H p (.frz o (.tup xs)))
def tupO (its : Array Value) : Obj := { cls := .type "tuple", data := .seq its }
theorem ok_tupO {P : Program} {w : World} {H : Hp} {h : Heap} {a : Addr} {xs : List V} {its : List Value} (r : Vals xs its) (z : xs.length ≤ sizeLine) (e : h.get? a = some (tupO its.toArray)) : ObjOk P w H h a (.frz (tupO its.toArray) (.tup xs)) :=
  ⟨e, z, its, r, ⟨_, e, rfl, _, rfl⟩⟩
section
variable {X : Cx}
theorem new_tupO {pins : List (Addr × Obj)} {s : Shared} {σ : L2.St} {H : Hp} {xs : List V} {its : List Value} {Q : VK} {t' : Nat} (I : Inv X pins σ H s) (r : Vals xs its) (z : xs.length ≤ sizeLine) (q : NewT H xs Q) :
    EP X pins σ Q (.ref s.heap.objs.size) { s with heap := s.heap.push (tupO its.toArray), toks := t' } :=
  ⟨.ref s.heap.objs.size, upd H s.heap.objs.size (.frz (tupO its.toArray) (.tup xs)), I.laid (t' := t') (fun b ob e => Heap.get?_push_of_some _ e) (Nat.le_refl _) (ok_tupO r z (Heap.get?_push_size _ rfl)), rfl, q _ _ (I.hok.fresh (Nat.le_refl _)) rfl⟩
def tTupB (t : TA) : TE := fun σ H Q => t σ H fun xs H1 => xs.length ≤ sizeLine ∧ NewT H1 xs Q
theorem pe_tupB {es : List Expr} {t : TA} {k : Nat} {pos : Pos} (h : PA X es t) : PE X (.Tuple es k pos) (tTupB t) :=
  ⟨fun pins s σ H Q I hq => wpAny_Tuple_spliced (thn (h.run pos pins s σ H _ I hq) fun us s1 ⟨xs, H1, I1, r, z, q⟩ => ⟨by rw [← r.length]; exact z, new_tupO (t' := s1.toks) I1 r z q⟩)⟩
def rCatB (K : PySem.W.Frag) : R2 := fun x y H Q => ∃ a b xs ys, x = .ref a ∧ y = .ref b ∧ SqT K H a xs ∧ SqT K H b ys ∧ xs.length + ys.length ≤ sizeLine ∧
  (xs = [] → Q (.ref b) H) ∧ (xs ≠ [] → ys = [] → Q (.ref a) H) ∧ (xs ≠ [] → ys ≠ [] → NewT H (xs ++ ys) Q)
theorem op_catB : OpR X (binaryOp .Add) (rCatB X.K) := by
  intro pins s σ H x y v u Q I rx ry ⟨a, b, xs, ys, e1, e2, ha, hb, hz, q0, q1, q2⟩
  subst e1 e2
  by_cases hx : xs = []
  · exact op_catA pins s σ H _ _ v u Q I rx ry ⟨a, b, xs, ys, rfl, rfl, ha, hb, hz, q0, q1, fun n => absurd hx n⟩
  by_cases hy : ys = []
  · exact op_catA pins s σ H _ _ v u Q I rx ry ⟨a, b, xs, ys, rfl, rfl, ha, hb, hz, q0, q1, fun _ n => absurd hy n⟩
  cases rx
  cases ry
  obtain ⟨us, r1, t1, _⟩ := I.tuple ha
  obtain ⟨ws, r2, t2, _⟩ := I.tuple hb
  exact HT.cat_tup t1 t2 (fun z => hx (r1.nil_iff.mp z)) (fun z => absurd (r2.nil_iff.mp z) hy) (fun _ => new_tupO (t' := s.toks) I (r1.append r2) (by rw [List.length_append]; exact hz) (q2 hx hy)) (by rw [← r1.length, ← r2.length]; exact hz)
def rSlB (K : PySem.W.Frag) : V → Option Int → Option Int → Hp → VK → Prop := fun x lo hi H Q => ∃ a xs, x = .ref a ∧ SqT K H a xs ∧
  (HT.sIx xs.length 0 lo = 0 ∧ HT.sIx xs.length xs.length hi = xs.length → Q (.ref a) H) ∧ (¬ (HT.sIx xs.length 0 lo = 0 ∧ HT.sIx xs.length xs.length hi = xs.length) → NewT H (cutV xs lo hi) Q)
theorem sl_tupB : SlR X (rSlB X.K) := by
  intro pins s σ H x v vl vu lo hi sl Q I rx hs pl pu ⟨a, xs, e, hx, q1, q2⟩
  subst e
  by_cases hw : HT.sIx xs.length 0 lo = 0 ∧ HT.sIx xs.length xs.length hi = xs.length
  · exact sl_tupA pins s σ H _ v vl vu lo hi sl Q I rx hs pl pu ⟨a, xs, rfl, hx, q1, fun n => absurd hw n⟩
  · cases rx
    obtain ⟨us, r, t, hz⟩ := I.tuple hx
    have len : us.toArray.size = xs.length := by rw [List.size_toArray]; exact r.length.symm
    refine ⟨"tuple", _, PyProof.Rows.slot_tuple_getitem.lookup, t.typeIs, HT.getItem_tuple_cut t hs pl pu (by rw [len]; exact hw) ?_ (by rw [len]; exact hz)⟩
    rw [len]
    exact new_tupO (t' := s.toks) I ((r.drop (HT.sIx xs.length 0 lo)).take (HT.sIx xs.length xs.length hi - HT.sIx xs.length 0 lo)) (Nat.le_trans (cutV_length xs lo hi) hz) (q2 hw)
theorem call_tupleB : CallR X (.type "tuple") (fun xs H Q => ∃ p ys, xs = [.ref p] ∧ ((SqL X.K H p ys ∧ NewT H ys Q) ∨ (SqT X.K H p ys ∧ Q (.ref p) H))) := by
  intro pins s σ H xs us Q I r ⟨p, ys, e, h⟩
  rcases h with ⟨hq, q⟩ | h
  · subst e
    obtain ⟨u, rfl, rx⟩ := vals1 r
    cases rx
    obtain ⟨its, r', pl, hz⟩ := I.list hq
    have len := r'.length
    exact call_tuple_list pl.isList (fun h' kp => new_tupO (s := { s with heap := h' }) (t' := s.toks) (I.kept (t' := s.toks) kp) r' hz q) (by simp only [List.size_toArray] <;> omega)
  · exact call_tuple_of pins s σ H xs us Q I r ⟨p, ys, e, .inr h⟩
def rRepB (K : PySem.W.Frag) : R2 := fun x y H Q => ∃ l k xs, x = .ref l ∧ y = .int k ∧ SqT K H l xs ∧ xs ≠ [] ∧ 2 ≤ k ∧ k ≤ 1000 ∧ xs.length ≤ 1000 ∧ NewT H (List.replicate k.toNat xs).flatten Q
theorem op_repB : OpR X (binaryOp .Mult) (rRepB X.K) := by
  intro pins s σ H x y v u Q I rx ry ⟨l, k, xs, e1, e2, hT, ne, k2, k1000, few, q⟩
  subst e1 e2
  cases rx
  obtain ⟨tk, rfl⟩ := ry
  obtain ⟨us, r, ⟨⟨cls, dd, data, sl⟩, at_, hc, n, hd⟩, _⟩ := I.tuple hT
  obtain rfl : cls = .type "tuple" := hc
  obtain rfl : data = .seq us.toArray n := hd
  have len : us.toArray.size = xs.length := by rw [List.size_toArray, ← r.length]
  have pos : 0 < xs.length := List.length_pos_iff.mpr ne
  have emp : us.toArray.isEmpty = false := by
    rw [Array.isEmpty_eq_false_iff_exists_mem]
    have : 0 < us.toArray.size := by omega
    exact ⟨us.toArray[0], Array.getElem_mem this⟩
  have prod : ((us.toArray.size : Nat) : Int) * k ≤ 1000000 := by
    rw [len]
    have : ((xs.length : Nat) : Int) * k ≤ 1000 * k := Int.mul_le_mul_of_nonneg_right (by omega) (by omega)
    omega
  have prodN : k.toNat * xs.length ≤ 1000 * 1000 := Nat.mul_le_mul (by omega) few
  have flat : ((List.replicate k.toNat us).flatten).length ≤ sizeLine := by
    rw [PyProof.Rows.lm_len_rep_flat, ← r.length, sizeLine_eq]
    omega
  have g0 : (decide (k < -(2 ^ 63)) || decide (k ≥ 2 ^ 63)) = false := by rw [Bool.or_eq_false_iff, decide_eq_false_iff_not, decide_eq_false_iff_not]; omega
  have g1 : (us.toArray.isEmpty || k == 1) = false := by rw [emp, Bool.false_or, beq_eq_false_iff_ne]; omega
  have g2 : (decide (k ≤ 0) || us.toArray.isEmpty) = false := by rw [emp, Bool.or_false, decide_eq_false_iff_not]; omega
  have g3 : Builtin.Tuple.tupleTooMany (((us.toArray.size : Nat) : Int) * k) = false := by
    unfold Builtin.Tuple.tupleTooMany
    rw [sizeLine_eq, decide_eq_false_iff_not]
    omega
  refine wpAny_binaryOp_repeat_ref (T := "tuple") (U := "int") (by decide) ⟨_, at_, rfl⟩ (fun z => typeIs_int z k tk) noFill_tuple_mul F.fills_int_mul F.slot_int_rmul repeat_tuple F.slot_int_index.lookup
    (call_meets F.slot_int_rmul (typeIs_int s k tk) F.entry_int_rmul (F.args_int_rmul_2 _ _) (int_rmul_tuple k tk l us.toArray n dd sl)
      ⟨at_, rfl, ⟨_, at_, rfl⟩, call_meets F.slot_tuple_mul ⟨_, at_, rfl⟩ F.entry_tuple_mul (F.args_tuple_mul_2 _ _)
        (tuple_mulW l us.toArray n dd sl k tk g0 g1 g2 (by omega) g3 (by rw [size_rep, List.size_toArray]; exact flat)) ⟨at_, ?_⟩⟩)
  rw [size_rep]
  exact new_tupO (t' := s.toks) I (r.rep k.toNat) (by rw [PyProof.Rows.lm_len_rep_flat, sizeLine_eq]; omega) q
end
end DL

set_option Elab.async false
set_option linter.all false
set_option maxRecDepth 100000
set_option maxHeartbeats 1000000
namespace DL
open PySem L2

structure Gt where
  cA : Str → Option Addr
  xA : Str → Option Addr
abbrev gx (X : Cx) (T : Gt) : Gc := ⟨X.K, T.cA, T.xA⟩

def wR {α β : Type} (G : Gc) (W : WX) (Rl : List Addr → Hp → β → α → Prop) (r : R α) (σ : L2.St) (μ : List Addr) (H : Hp) (Q : β → Hp → Prop) : Prop :=
  match r with
  | .ok d S' => ∀ v μ' H', Gr μ H μ' H' → HS G μ' S' H' → Rl μ' H' v d → Q v H'
  | .exc c S' => ∀ C μ' H', G.xA c = some C → Gr μ H μ' H' → HS G μ' S' H' → W (.ref C) none σ H'
  | .bad => False
section
variable {α β γ δ : Type} {G : Gc} {W : WX} {Rl : List Addr → Hp → β → α → Prop} {Rl' : List Addr → Hp → δ → γ → Prop} {σ : L2.St} {ε : Env} {μ μ1 : List Addr} {H H1 : Hp} {S : Sto}
theorem wR.up {r : R α} {Q : β → Hp → Prop} (g : Gr μ H μ1 H1) (h : wR G W Rl r σ μ H Q) : wR G W Rl r σ μ1 H1 Q := by
  cases r with
  | ok d S' => exact fun v μ' H' g' hs rl => h v μ' H' (g.trans g') hs rl
  | exc c S' => exact fun C μ' H' e g' hs => h C μ' H' e (g.trans g') hs
  | bad => exact h
theorem wR.imp {r : R α} {Q Q' : β → Hp → Prop} (h : wR G W Rl r σ μ H Q) (q : ∀ v H', Q v H' → Q' v H') : wR G W Rl r σ μ H Q' := by
  cases r with
  | ok d S' => exact fun v μ' H' g' hs rl => q _ _ (h v μ' H' g' hs rl)
  | exc c S' => exact h
  | bad => exact h
theorem wR.bind {r : R α} {k : α → Sto → R γ} {Q : δ → Hp → Prop} (sr : SR G.K μ H σ ε) (h : wR G W Rl' (r.bind k) σ μ H Q) :
    wR G W Rl r σ μ H fun v H1 => ∃ d μ1 S1, Gr μ H μ1 H1 ∧ HS G μ1 S1 H1 ∧ SR G.K μ1 H1 σ ε ∧ Rl μ1 H1 v d ∧ wR G W Rl' (k d S1) σ μ1 H1 Q := by
  cases r with
  | ok d S' => exact fun v μ' H' g hs rl => ⟨d, μ', S', g, hs, sr.mono g, rl, wR.up g h⟩
  | exc c S' => exact h
  | bad => exact h
theorem wR.here {d : α} {v : β} {Q : β → Hp → Prop} (hs : HS G μ S H) (h : wR G W Rl (.ok d S) σ μ H Q) (r : Rl μ H v d) : Q v H := h v μ H Gr.refl hs r
end

def tR {α β : Type} (G : Gc) (W : WX) (Rl : List Addr → Hp → β → α → Prop) (den : Env → Sto → R α) : L2.St → Hp → (β → Hp → Prop) → Prop := fun σ H Q =>
  ∃ ε μ S, SR G.K μ H σ ε ∧ HS G μ S H ∧ wR G W Rl (den ε S) σ μ H Q
def rlV (G : Gc) : List Addr → Hp → V → D → Prop := fun μ H v d => RV G.K μ H v d
def rlB : List Addr → Hp → Bool → Bool → Prop := fun _ _ v d => v = d
def rlA (G : Gc) : List Addr → Hp → List V → List D → Prop := fun μ H v d => RVs G.K μ H v d
def rlO : List Addr → Hp → Option Int → Option Int → Prop := fun _ _ v d => v = d
abbrev Den := Env → Sto → R D
abbrev DenB := Env → Sto → R Bool
abbrev DenA := Env → Sto → R (List D)
abbrev DenO := Env → Sto → R (Option Int)
abbrev tD (G : Gc) (W : WX) (den : Den) : TE := tR G W (rlV G) den
abbrev tDB (G : Gc) (W : WX) (den : DenB) : TT := tR G W rlB den
abbrev tDA (G : Gc) (W : WX) (den : DenA) : TA := tR G W (rlA G) den
abbrev tDO (G : Gc) (W : WX) (den : DenO) : TO := tR G W rlO den
theorem _root_.L2.PE.imp {X : Cx} {e : Expr} {t t' : TE} (h : PE X e t) (q : ∀ σ H Q, t' σ H Q → t σ H Q) : PE X e t' := ⟨fun pins s σ H Q I z => h.run pins s σ H Q I (q _ _ _ z)⟩
theorem _root_.L2.PT.imp {X : Cx} {e : Expr} {t t' : TT} (h : PT X e t) (q : ∀ σ H Q, t' σ H Q → t σ H Q) : PT X e t' := ⟨fun pins s σ H Q I z => h.run pins s σ H Q I (q _ _ _ z)⟩
theorem _root_.L2.PA.imp {X : Cx} {e : List Expr} {t t' : TA} (h : PA X e t) (q : ∀ σ H Q, t' σ H Q → t σ H Q) : PA X e t' := ⟨fun pos pins s σ H Q I z => h.run pos pins s σ H Q I (q _ _ _ z)⟩
theorem _root_.L2.PW.imp {X : Cx} {e : Expr} {t t' : TT} (h : PW X e t) (q : ∀ σ H Q, t' σ H Q → t σ H Q) : PW X e t' := ⟨fun whole pins s σ H Q I z => h.run whole pins s σ H Q I (q _ _ _ z)⟩

section
variable {X : Cx} {T : Gt} {W : WX}
def dC (d : D) : Den := fun _ S => .ok d S
def dVar (i : Nat) : Den := fun ε S => match ε[i]? with
  | some (some d) => .ok d S
  | _ => .bad
theorem pd_int {i : Int} {j : Nat} {pos : Pos} : PE X (.Constant (.int i) j pos) (tD (gx X T) W (dC (.int i))) :=
  pe_int.imp fun _ _ _ ⟨_, _, _, _, hs, h⟩ => wR.here hs h (.int i)
theorem pd_bl {b : Bool} {j : Nat} {pos : Pos} : PE X (.Constant (.bool b) j pos) (tD (gx X T) W (dC (.bl b))) :=
  pe_bl.imp fun _ _ _ ⟨_, _, _, _, hs, h⟩ => wR.here hs h (.bl b)
theorem pd_str {x : Str} {j : Nat} {pos : Pos} : PE X (.Constant (.str x) j pos) (tD (gx X T) W (dC (.str x))) :=
  pe_str.imp fun _ _ _ ⟨_, _, _, _, hs, h⟩ => wR.here hs h (.str x)
theorem pd_var (i : Nat) {x : Str} {pos : Pos} (hN : X.N[i]? = some x := by rfl) (hv : Vis X.env.scope x := by first | exact Or.inl rfl | exact Or.inr (Or.inl rfl) | exact Or.inr (Or.inr rfl)) (hd : (x == ("__debug__" : Str)) = false := by decide)
    (hcd : (x == ("__classdict__" : Str)) = false := by decide) : PE X (.Name x pos) (tD (gx X T) W (dVar i)) :=
  (pe_var hN hv hd hcd).imp fun σ H Q ⟨ε, μ, S, sr, hs, h⟩ => by
    unfold dVar at h
    cases e : ε[i]? with
    | none => rw [e] at h; exact h.elim
    | some o =>
      cases o with
      | none => rw [e] at h; exact h.elim
      | some d =>
        rw [e] at h
        obtain ⟨v, e1, r⟩ := sr.2 i d e
        exact ⟨v, e1, wR.here hs h r⟩
def dNil : DenA := fun _ S => .ok [] S
def dCons (a : Den) (r : DenA) : DenA := fun ε S => (a ε S).bind fun d S => (r ε S).bind fun ds S => .ok (d :: ds) S
theorem pda_nil : PA X [] (tDA (gx X T) W dNil) := pa_nil.imp fun _ _ _ ⟨_, _, _, _, hs, h⟩ => wR.here hs h .nil
theorem pda_cons {e : Expr} {es : List Expr} {a : Den} {r : DenA} (ha : PE X e (tD (gx X T) W a)) (hr : PA X es (tDA (gx X T) W r)) (he : starEach (e :: es) X.env = (false, eval e X.env) :: starEach es X.env := by rfl) :
    PA X (e :: es) (tDA (gx X T) W (dCons a r)) :=
  (pa_cons ha hr he).imp fun σ H Q ⟨ε, μ, S, sr, hs, h⟩ =>
    ⟨ε, μ, S, sr, hs, (wR.bind sr h).imp fun v H1 ⟨d, μ1, S1, g1, hs1, sr1, r1, h1⟩ =>
      ⟨ε, μ1, S1, sr1, hs1, (wR.bind (Rl := rlA (gx X T)) sr1 h1).imp fun vs H2 ⟨ds, μ2, S2, g2, hs2, sr2, r2, h2⟩ => wR.here hs2 h2 (.cons (RV.mono g2 r1) r2)⟩⟩
def big : Nat := 1000000
theorem big_ok {n : Nat} (h : n ≤ big) : n ≤ sizeLine := Nat.le_trans h (by decide)
theorem big_lt {n : Nat} (h : n ≤ big) : n < sizeLine := Nat.lt_of_le_of_lt h (by decide)
def mkTup (ds : List D) (S : Sto) : R D := if ds.length ≤ big then .ok (.tup ds) S else .bad
def mkLst (ds : List D) (S : Sto) : R D := if ds.length ≤ big then .ok (.ref S.length) (S ++ [.lst ds]) else .bad
theorem newT_of {G : Gc} {σ : L2.St} {μ : List Addr} {S : Sto} {H : Hp} {xs : List V} {ds : List D} {Q : VK} (hs : HS G μ S H) (r : RVs G.K μ H xs ds) (h : wR G W (rlV G) (.ok (.tup ds) S) σ μ H Q) : NewT H xs Q :=
  fun p o hp hd => h _ _ _ (Gr.new hp) (hs.beside hp) (.tup ⟨hs.fresh hp, .inr ⟨o, upd_same⟩⟩ (fun _ => ⟨o, upd_same, hd⟩) (r.mono (Gr.new hp)))
theorem new_tup {G : Gc} {σ : L2.St} {μ : List Addr} {S : Sto} {H : Hp} {xs : List V} {ds : List D} {Q : VK} (hs : HS G μ S H) (r : RVs G.K μ H xs ds) (h : wR G W (rlV G) (mkTup ds S) σ μ H Q) :
    xs.length ≤ sizeLine ∧ NewT H xs Q := by
  unfold mkTup at h
  split at h
  · exact ⟨by rw [r.length]; exact big_ok ‹_›, newT_of hs r h⟩
  · exact h.elim
theorem new_lst {G : Gc} {σ : L2.St} {μ : List Addr} {S : Sto} {H : Hp} {xs : List V} {ds : List D} {Q : VK} (hs : HS G μ S H) (r : RVs G.K μ H xs ds) (h : wR G W (rlV G) (mkLst ds S) σ μ H Q) :
    xs.length ≤ sizeLine ∧ ∀ p, H p = none → Q (.ref p) (upd H p (.lst xs)) := by
  unfold mkLst at h
  split at h
  · refine ⟨by rw [r.length]; exact big_ok ‹_›, fun p hp => h _ _ _ (Gr.obj hp) (hs.grow hp ⟨xs, upd_same, r.mono (Gr.obj hp)⟩) ?_⟩
    exact .ref hs.last
  · exact h.elim
def dTup (a : DenA) : Den := fun ε S => (a ε S).bind mkTup
def dLst (a : DenA) : Den := fun ε S => (a ε S).bind mkLst
theorem pd_tup {es : List Expr} {k : Nat} {pos : Pos} {a : DenA} (ha : PA X es (tDA (gx X T) W a)) : PE X (.Tuple es k pos) (tD (gx X T) W (dTup a)) :=
  (pe_tupB ha).imp fun σ H Q ⟨ε, μ, S, sr, hs, h⟩ => ⟨ε, μ, S, sr, hs, (wR.bind (Rl := rlA (gx X T)) sr h).imp fun vs H1 ⟨ds, μ1, S1, g1, hs1, sr1, r1, h1⟩ => new_tup hs1 r1 h1⟩
theorem pd_lst {es : List Expr} {pos : Pos} {a : DenA} (ha : PA X es (tDA (gx X T) W a)) : PE X (.List es pos) (tD (gx X T) W (dLst a)) :=
  (pe_lst ha).imp fun σ H Q ⟨ε, μ, S, sr, hs, h⟩ => ⟨ε, μ, S, sr, hs, (wR.bind (Rl := rlA (gx X T)) sr h).imp fun vs H1 ⟨ds, μ1, S1, g1, hs1, sr1, r1, h1⟩ => new_lst hs1 r1 h1⟩

abbrev Op := D → D → Sto → R D
def OpD (X : Cx) (T : Gt) (f : Value → Value → Sem Value) (o : Op) : Prop :=
  ∃ r : R2, OpR X f r ∧ ∀ (W : WX) σ μ S H x y d e Q, HS (gx X T) μ S H → RV X.K μ H x d → RV X.K μ H y e → wR (gx X T) W (rlV (gx X T)) (o d e S) σ μ H Q → r x y H Q
def dBin (o : Op) (a b : Den) : Den := fun ε S => (a ε S).bind fun d S => (b ε S).bind fun e S => o d e S
theorem bin_to {o : Op} {r : R2} {a b : Den} (ho : ∀ (W : WX) σ μ S H x y d e Q, HS (gx X T) μ S H → RV X.K μ H x d → RV X.K μ H y e → wR (gx X T) W (rlV (gx X T)) (o d e S) σ μ H Q → r x y H Q) :
    ∀ σ H Q, tD (gx X T) W (dBin o a b) σ H Q → tOp r (tD (gx X T) W a) (tD (gx X T) W b) σ H Q := fun σ H Q ⟨ε, μ, S, sr, hs, h⟩ =>
  ⟨ε, μ, S, sr, hs, (wR.bind (Rl := rlV (gx X T)) sr h).imp fun v H1 ⟨d, μ1, S1, g1, hs1, sr1, r1, h1⟩ =>
    ⟨ε, μ1, S1, sr1, hs1, (wR.bind (Rl := rlV (gx X T)) sr1 h1).imp fun w H2 ⟨e, μ2, S2, g2, hs2, sr2, r2, h2⟩ => ho W σ μ2 S2 H2 v w d e Q hs2 (RV.mono g2 r1) r2 h2⟩⟩
theorem pd_bin {op : Operator} {o : Op} {a b : Expr} {da db : Den} {pos : Pos} (ho : OpD X T (binaryOp op) o) (ha : PE X a (tD (gx X T) W da)) (hb : PE X b (tD (gx X T) W db)) : PE X (.BinOp a op b pos) (tD (gx X T) W (dBin o da db)) := by
  obtain ⟨r, hr, q⟩ := ho
  exact (pe_op hr ha hb).imp (bin_to q)
theorem pd_cmp {op : CmpOp} {o : Op} {a b : Expr} {da db : Den} {pos : Pos} (ho : OpD X T (compareOp op) o) (ha : PE X a (tD (gx X T) W da)) (hb : PE X b (tD (gx X T) W db)) (hm : behindInMarks op b = false) : PE X (.Compare a [op] [b] pos) (tD (gx X T) W (dBin o da db)) := by
  obtain ⟨r, hr, q⟩ := ho
  exact (pe_cmpR hr ha hb hm).imp (bin_to q)
def dTest (a : Den) : DenB := fun ε S => (a ε S).bind fun d S => match d with
  | .bl b => .ok b S
  | _ => .bad
theorem test_to {t : TE} {a : Den} (h0 : ∀ σ H Q, tD (gx X T) W a σ H Q → t σ H Q) : ∀ σ H Q, tDB (gx X T) W (dTest a) σ H Q → tTest t σ H Q := fun σ H Q ⟨ε, μ, S, sr, hs, h⟩ =>
  h0 _ _ _ ⟨ε, μ, S, sr, hs, (wR.bind (Rl := rlV (gx X T)) sr h).imp fun v H1 ⟨d, μ1, S1, g1, hs1, sr1, r1, h1⟩ => by
    have r1 : RV X.K μ1 H1 v d := r1
    cases r1 with
    | bl b => exact ⟨b, rfl, wR.here hs1 h1 rfl⟩
    | _ => exact h1.elim⟩
theorem ptd_cmp {op : CmpOp} {o : Op} {a b : Expr} {da db : Den} {pos : Pos} (ho : OpD X T (compareOp op) o) (ha : PE X a (tD (gx X T) W da)) (hb : PE X b (tD (gx X T) W db)) (hm : behindInMarks op b = false) : PT X (.Compare a [op] [b] pos) (tDB (gx X T) W (dTest (dBin o da db))) := by
  obtain ⟨r, hr, q⟩ := ho
  exact (pt_cmpR hr ha hb hm).imp (test_to (bin_to q))
theorem ptd_val {a : Expr} {da : Den} (ha : PE X a (tD (gx X T) W da)) (hw : ∀ whole, isTrue a X.env whole = (do let v ← whole; standAt a.pos; holding [v] (truthy v)) := by intro _; rfl) : PT X a (tDB (gx X T) W (dTest da)) :=
  (pt_val ha hw).imp (test_to (t := tD (gx X T) W da) fun _ _ _ h => h)

def oAdd : Op := fun d e S => match d, e with
  | .int i, .int j => .ok (.int (i + j)) S
  | .str x, .str y => if x.length + y.length ≤ big then .ok (.str (x ++ y)) S else .bad
  | .tup xs, .tup ys => if xs.length + ys.length ≤ big then .ok (.tup (xs ++ ys)) S else .bad
  | .ref n, .ref m => match S[n]?, S[m]? with
    | some (.lst xs), some (.lst ys) => mkLst (xs ++ ys) S
    | _, _ => .bad
  | _, _ => .bad
theorem HS.lst {G : Gc} {μ : List Addr} {S : Sto} {H : Hp} {v : V} {n : Nat} {ds : List D} (hs : HS G μ S H) (r : RV G.K μ H v (.ref n)) (e : S[n]? = some (.lst ds)) : ∃ a xs, v = .ref a ∧ μ[n]? = some a ∧ H a = some (.lst xs) ∧ RVs G.K μ H xs ds := by
  cases r with
  | ref q =>
    obtain ⟨o, e1, ro⟩ := hs.there q
    rw [e] at e1
    cases e1
    obtain ⟨xs, h1, h2⟩ := ro
    exact ⟨_, xs, rfl, q, h1, h2⟩
theorem HS.dct {G : Gc} {μ : List Addr} {S : Sto} {H : Hp} {v : V} {n : Nat} {ds : List (Key × D)} (hs : HS G μ S H) (r : RV G.K μ H v (.ref n)) (e : S[n]? = some (.dct ds)) : ∃ a xs, v = .ref a ∧ μ[n]? = some a ∧ H a = some (.dK xs) ∧ RKs G.K μ H xs ds := by
  cases r with
  | ref q =>
    obtain ⟨o, e1, ro⟩ := hs.there q
    rw [e] at e1
    cases e1
    obtain ⟨xs, h1, h2⟩ := ro
    exact ⟨_, xs, rfl, q, h1, h2⟩
theorem HS.ins {G : Gc} {μ : List Addr} {S : Sto} {H : Hp} {v : V} {n : Nat} {c : Str} {fs : List (Str × D)} (hs : HS G μ S H) (r : RV G.K μ H v (.ref n)) (e : S[n]? = some (.ins c fs)) :
    ∃ a C dx ws, v = .ref a ∧ μ[n]? = some a ∧ G.cA c = some C ∧ H a = some (.ins C dx ws) ∧ RKs G.K μ H ws fs := by
  cases r with
  | ref q =>
    obtain ⟨o, e1, ro⟩ := hs.there q
    rw [e] at e1
    cases e1
    obtain ⟨C, dx, ws, h1, h2, h3⟩ := ro
    exact ⟨_, C, dx, ws, rfl, q, h1, h2, h3⟩
theorem od_add : OpD X T (binaryOp .Add) oAdd := by
  refine ⟨_, op_add.or (op_add_str.or (op_catB.or op_cat)), fun W σ μ S H x y d e Q hs rx ry h => ?_⟩
  unfold oAdd at h
  split at h
  · cases rx
    cases ry
    exact .inl ⟨_, _, rfl, rfl, wR.here hs h (.int _)⟩
  · split at h
    · cases rx
      cases ry
      exact .inr (.inl ⟨_, _, rfl, rfl, big_ok ‹_›, wR.here hs h (.str _)⟩)
    · exact h.elim
  · split at h
    · cases rx with
      | tup tx bx rx =>
        cases ry with
        | tup ty bY ry =>
          refine .inr (.inr (.inl ⟨_, _, _, _, rfl, rfl, tx.sq, ty.sq, by rw [rx.length, ry.length]; exact big_ok ‹_›, fun z => ?_, fun _ z => ?_, fun _ _ => ?_⟩))
          · subst z
            cases rx
            exact wR.here hs h (.tup ty bY ry)
          · subst z
            cases ry
            rw [List.append_nil] at h
            exact wR.here hs h (.tup tx bx rx)
          · exact newT_of hs (rx.append ry) h
    · exact h.elim
  · split at h
    · obtain ⟨a, xs, rfl, ea, ha, ra⟩ := hs.lst rx ‹_›
      obtain ⟨b, ys, rfl, eb, hb, rb⟩ := hs.lst ry ‹_›
      have z := new_lst hs (ra.append rb) h
      rw [List.length_append] at z
      exact .inr (.inr (.inr ⟨_, _, _, _, rfl, rfl, ha, hb, z.1, z.2⟩))
    · exact h.elim
  · exact h.elim
def oSub : Op := fun d e S => match d, e with
  | .int i, .int j => .ok (.int (i - j)) S
  | _, _ => .bad
theorem od_sub : OpD X T (binaryOp .Sub) oSub := by
  refine ⟨_, op_sub, fun W σ μ S H x y d e Q hs rx ry h => ?_⟩
  unfold oSub at h
  split at h
  · cases rx
    cases ry
    exact ⟨_, _, rfl, rfl, wR.here hs h (.int _)⟩
  · exact h.elim
def oMod : Op := fun d e S => match d, e with
  | .int i, .int j => if 0 < j then .ok (.int (i % j)) S else .bad
  | _, _ => .bad
theorem od_mod : OpD X T (binaryOp .Mod) oMod := by
  refine ⟨_, op_mod, fun W σ μ S H x y d e Q hs rx ry h => ?_⟩
  unfold oMod at h
  split at h
  · split at h
    · cases rx
      cases ry
      exact ⟨_, _, rfl, rfl, ‹_›, wR.here hs h (.int _)⟩
    · exact h.elim
  · exact h.elim
def oDiv : Op := fun d e S => match d, e with
  | .int i, .int j => if 0 < j ∧ j < 1073741824 then .ok (.int (i / j)) S else .bad
  | _, _ => .bad
theorem od_div : OpD X T (binaryOp .FloorDiv) oDiv := by
  refine ⟨_, op_fdiv, fun W σ μ S H x y d e Q hs rx ry h => ?_⟩
  unfold oDiv at h
  split at h
  · split at h
    · cases rx
      cases ry
      exact ⟨_, _, rfl, rfl, ‹_›, wR.here hs h (.int _)⟩
    · exact h.elim
  · exact h.elim
end
end DL

set_option Elab.async false
set_option linter.all false
set_option maxRecDepth 100000
set_option maxHeartbeats 1000000
namespace L2
open PySem PySem.Spec PyProof.Rows
theorem tuple_mul_self (l : Addr) (items : Array Value) (n : Nat) (dd : Option Addr) (sl : Array (Option Value)) (x : Int) (u : Tok) (c0 : (decide (x < -(2 ^ 63)) || decide (x ≥ 2 ^ 63)) = false) (c1 : (items.isEmpty || x == 1) = true) :
    Meets (Builtin.«tuple.__mul__» ⟨[.ref l, .int x u], []⟩) (fun _ R s => s.heap.get? l = some { cls := .type "tuple", dict := dd, data := .seq items n, slots := sl } ∧ R (.ok (.ret (Value.ref l))) { s with heap := s.heap, toks := s.toks }) :=
  .of_wp fun prog w A R s h => by
    obtain ⟨hp, g, d, tk, os⟩ := s
    obtain ⟨hl, h⟩ := h
    have f1 := AutoSeq1.idx_int
    wp_walk using wpAny_loadPart' hl
    repeat (first
      | (refine wpAny_ite_false (decide_eq_false (by rw [c0]; exact Bool.false_ne_true)) ?_; wp_walk using wpAny_loadPart' hl)
      | (refine wpAny_ite_true (decide_eq_true c1) ?_; wp_walk using wpAny_loadPart' hl))
    exact ⟨_, rfl, h⟩
section
variable {X : Cx}
def rRepSelf (K : PySem.W.Frag) : R2 := fun x y H Q => ∃ l k xs, x = .ref l ∧ y = .int k ∧ SqT K H l xs ∧ (xs = [] ∨ k = 1) ∧ 0 ≤ k ∧ k ≤ 1000 ∧ Q (.ref l) H
theorem op_repSelf : OpR X (binaryOp .Mult) (rRepSelf X.K) := by
  intro pins s σ H x y v u Q I rx ry h
  obtain ⟨l, k, xs, rfl, rfl, hT, hne, h1, h2, q⟩ := h
  cases rx
  obtain ⟨t, rfl⟩ := ry
  obtain ⟨its, r, ⟨⟨cls, dd, data, sl⟩, ho, hc, n, hd⟩, hs⟩ := I.tuple hT
  simp only at hc hd
  subst hc hd
  have c0 : (decide (k < -(2 ^ 63)) || decide (k ≥ 2 ^ 63)) = false := by
    rw [decide_eq_false (by omega), decide_eq_false (by omega)] <;> rfl
  have c1 : (its.toArray.isEmpty || k == 1) = true := by
    rcases hne with e | e
    · subst e
      cases r
      rfl
    · subst e
      simp
  refine wpAny_binaryOp_repeat_ref (T := "tuple") (U := "int") (by decide) ⟨_, ho, rfl⟩ (fun s' => typeIs_int s' k t) noFill_tuple_mul F.fills_int_mul F.slot_int_rmul repeat_tuple F.slot_int_index.lookup
    (call_meets F.slot_int_rmul (typeIs_int s k t) F.entry_int_rmul (F.args_int_rmul_2 _ _) (int_rmul_tuple k t l its.toArray n dd sl)
      ⟨ho, rfl, ⟨_, ho, rfl⟩, call_meets F.slot_tuple_mul ⟨_, ho, rfl⟩ F.entry_tuple_mul (F.args_tuple_mul_2 _ _) (tuple_mul_self l its.toArray n dd sl k t c0 c1) ⟨ho, ?_⟩⟩)
  exact ⟨.ref l, H, I, rfl, q⟩
def rInT (K : PySem.W.Frag) : R2 := fun x y H Q => ∃ d ds, Dp K H x d ∧ Dp K H y (.tuple ds) ∧ SeqAt.shaped d = true ∧ SeqAt.shaped (.tuple ds) = true ∧ Q (.bl (ds.any fun z => PyData.eqv z d)) H
def rNotInT (K : PySem.W.Frag) : R2 := fun x y H Q => ∃ d ds, Dp K H x d ∧ Dp K H y (.tuple ds) ∧ SeqAt.shaped d = true ∧ SeqAt.shaped (.tuple ds) = true ∧ Q (.bl (!ds.any fun z => PyData.eqv z d)) H
theorem op_inTD (hu : X.A.units + 65 < cLine) : OpR X (compareOp .In) (rInT X.K) := by
  intro pins s σ H x y v u Q I rx ry h
  obtain ⟨d, ds, hd, he, sd, se, q⟩ := h
  obtain ⟨as, r1⟩ := Dp.reads I d x v hd rx
  obtain ⟨bs, r2⟩ := Dp.reads I (.tuple ds) y u he ry
  exact SeqAt.in_tuple_reads r2 r1 (SeqAt.canLay_of_shaped se) (SeqAt.canLay_of_shaped sd) (room_in_shaped sd hu) ⟨.bl _, H, I, rfl, q⟩
theorem op_notInTD (hu : X.A.units + 65 < cLine) : OpR X (compareOp .NotIn) (rNotInT X.K) := by
  intro pins s σ H x y v u Q I rx ry h
  obtain ⟨d, ds, hd, he, sd, se, q⟩ := h
  obtain ⟨as, r1⟩ := Dp.reads I d x v hd rx
  obtain ⟨bs, r2⟩ := Dp.reads I (.tuple ds) y u he ry
  exact SeqAt.notIn_tuple_reads r2 r1 (SeqAt.canLay_of_shaped se) (SeqAt.canLay_of_shaped sd) (room_in_shaped sd hu) ⟨.bl _, H, I, rfl, q⟩
end
end L2
namespace DL
open PySem L2
section
variable {X : Cx} {T : Gt} {W : WX}
def oMul : Op := fun d e S => match d, e with
  | .int i, .int j => if (-(2 ^ 64) < i ∧ i < 2 ^ 64) ∨ (-(2 ^ 64) < j ∧ j < 2 ^ 64) then .ok (.int (i * j)) S else .bad
  | .tup xs, .int k => if 0 ≤ k ∧ k ≤ 1000 ∧ (xs = [] ∨ k = 1) then .ok (.tup xs) S else if 2 ≤ k ∧ k ≤ 1000 ∧ xs.length ≤ 1000 then .ok (.tup (List.replicate k.toNat xs).flatten) S else .bad
  | .ref n, .int k => match S[n]? with
    | some (.lst xs) => if -(2 ^ 63) ≤ k ∧ k < 2 ^ 63 ∧ xs.length * k.toNat ≤ big then .ok (.ref S.length) (S ++ [.lst (List.replicate k.toNat xs).flatten]) else .bad
    | _ => .bad
  | _, _ => .bad
theorem od_mul : OpD X T (binaryOp .Mult) oMul := by
  refine ⟨_, op_mul.or (op_repSelf.or (op_repB.or op_rep)), fun W σ μ S H x y d e Q hs rx ry h => ?_⟩
  unfold oMul at h
  split at h
  · split at h
    · cases rx
      cases ry
      exact .inl ⟨_, _, rfl, rfl, ‹_›, wR.here hs h (.int _)⟩
    · exact h.elim
  · cases ry
    cases rx with
    | tup tx bx rx =>
      split at h
      · rename_i hyes
        obtain ⟨h1, h2, h3⟩ := hyes
        refine .inr (.inl ⟨_, _, _, rfl, rfl, tx.sq, ?_, h1, h2, wR.here hs h (.tup tx bx rx)⟩)
        rcases h3 with h3 | h3
        · subst h3
          cases rx
          exact .inl rfl
        · exact .inr h3
      · rename_i hno
        split at h
        · rename_i hyes
          obtain ⟨h1, h2, h3⟩ := hyes
          refine .inr (.inr (.inl ⟨_, _, _, rfl, rfl, tx.sq, fun z => hno ⟨by omega, h2, .inl ?_⟩, h1, h2, by rw [rx.length]; exact h3, newT_of hs (rx.rep _) h⟩))
          subst z
          cases rx
          rfl
        · exact h.elim
  · split at h
    · split at h
      · rename_i hyes
        cases ry
        obtain ⟨h1, h2, h3⟩ := hyes
        obtain ⟨a, xs, rfl, ea, ha, ra⟩ := hs.lst rx ‹_›
        refine .inr (.inr (.inr ⟨_, _, _, rfl, rfl, ha, h1, h2, ?_, fun p hp => ?_⟩))
        · rw [ra.length]
          exact big_ok h3
        · exact h _ _ _ (Gr.obj hp) (hs.grow hp ⟨_, upd_same, (ra.rep _).mono (Gr.obj hp)⟩) (.ref hs.last)
      · exact h.elim
    · exact h.elim
  · exact h.elim
def dNeg (a : Den) : Den := fun ε S => (a ε S).bind fun d S => match d with
  | .int i => .ok (.int (-i)) S
  | _ => .bad
theorem pd_neg {a : Expr} {da : Den} {pos : Pos} (ha : PE X a (tD (gx X T) W da)) : PE X (.UnaryOp .USub a pos) (tD (gx X T) W (dNeg da)) :=
  (pe_un un_neg ha).imp fun σ H Q ⟨ε, μ, S, sr, hs, h⟩ => ⟨ε, μ, S, sr, hs, (wR.bind (Rl := rlV (gx X T)) sr h).imp fun v H1 ⟨d, μ1, S1, g1, hs1, sr1, r1, h1⟩ => by
    have r1 : RV X.K μ1 H1 v d := r1
    cases r1 with
    | int i => exact ⟨i, rfl, wR.here hs1 h1 (.int _)⟩
    | _ => exact h1.elim⟩

def oInt (f : Int → Int → Bool) : Op := fun d e S => match d, e with
  | .int i, .int j => .ok (.bl (f i j)) S
  | _, _ => .bad
theorem od_int {op : CmpOp} {f : Int → Int → Bool} (ho : OpR X (compareOp op) (rI0 fun i j => .bl (f i j))) : OpD X T (compareOp op) (oInt f) := by
  refine ⟨_, ho, fun W σ μ S H x y d e Q hs rx ry h => ?_⟩
  unfold oInt at h
  split at h
  · cases rx
    cases ry
    exact ⟨_, _, rfl, rfl, wR.here hs h (.bl _)⟩
  · exact h.elim
abbrev oLt : Op := oInt fun i j => decide (i < j)
abbrev oLe : Op := oInt fun i j => decide (i ≤ j)
abbrev oGt : Op := oInt fun i j => decide (j < i)
abbrev oGe : Op := oInt fun i j => decide (j ≤ i)
theorem od_lt : OpD X T (compareOp .Lt) oLt := od_int op_lt
theorem od_gt : OpD X T (compareOp .Gt) oGt := od_int op_gt
def oNotN : Op := fun d e S => match e with
  | .non => .ok (.bl (match d with | .non => false | _ => true)) S
  | _ => .bad
def fall {α β : Type} (f : α → Option β) : List α → Option (List β)
  | [] => some []
  | a :: r => match f a, fall f r with
    | some b, some s => some (b :: s)
    | _, _ => none
def frz : Nat → Sto → D → Option PyData
  | 0, _, _ => none
  | n + 1, S, d => match d with
    | .non => some .none
    | .bl b => some (.bool b)
    | .int i => some (.int i)
    | .str x => some (.str x)
    | .tup ds => (fall (frz n S) ds).map .tuple
    | .seq ds => (fall (frz n S) ds).map .list
    | .ref m => match S[m]? with
      | some (.lst ds) => (fall (frz n S) ds).map .list
      | _ => none
theorem fall_dp {K : PySem.W.Frag} {μ : List Addr} {H : Hp} {f : D → Option PyData} (hf : ∀ v d p, RV K μ H v d → f d = some p → Dp K H v p) : ∀ {vs : List V} {ds : List D} {ps : List PyData}, RVs K μ H vs ds → fall f ds = some ps → DpAll K H vs ps
  | _, _, _, .nil, e => by cases e; exact .nil
  | _, d :: ds, _, .cons h t, e => by
    unfold fall at e
    split at e
    · cases e
      exact .cons (hf _ _ _ h ‹_›) (fall_dp hf t ‹_›)
    · cases e
theorem frz_dp {G : Gc} {μ : List Addr} {S : Sto} {H : Hp} (hs : HS G μ S H) : ∀ (n : Nat) {v : V} {d : D} {p : PyData}, RV G.K μ H v d → frz n S d = some p → Dp G.K H v p
  | 0, _, _, _, _, e => by cases e
  | n + 1, v, d, p, r, e => by
    have ih : ∀ v d p, RV G.K μ H v d → frz n S d = some p → Dp G.K H v p := fun v d p => frz_dp hs n
    unfold frz at e
    cases r with
    | non => cases e; exact .non
    | bl b => cases e; exact .bl b
    | int i => cases e; exact .int i
    | str x => cases e; exact .str x
    | tup t bt rs =>
      obtain ⟨ps, e1, rfl⟩ := Option.map_eq_some_iff.mp e
      exact .tup t.sq (fall_dp ih rs e1)
    | seq t rs =>
      obtain ⟨ps, e1, rfl⟩ := Option.map_eq_some_iff.mp e
      exact .lst t.sq (fall_dp ih rs e1)
    | ref q =>
      simp only at e
      split at e
      · obtain ⟨ps, e1, rfl⟩ := Option.map_eq_some_iff.mp e
        obtain ⟨a, xs, ev, ea, ha, ra⟩ := hs.lst (RV.ref q) ‹_›
        cases ev
        exact .lst (.inl (.inl ha)) (fall_dp ih ra e1)
      · cases e
def deep : Nat := 40
def sEq : D → D → Option Bool
  | .non, .non => some true
  | .non, .int _ => some false | .int _, .non => some false | .non, .bl _ => some false | .bl _, .non => some false | .non, .str _ => some false | .str _, .non => some false
  | .int i, .int j => some (decide (i = j))
  | .bl i, .bl j => some (decide (i = j))
  | .str i, .str j => some (decide (i = j))
  | .int _, .str _ => some false | .str _, .int _ => some false | .bl _, .str _ => some false | .str _, .bl _ => some false
  | _, _ => none
def dEq (S : Sto) (d e : D) : Option Bool := match sEq d e with
  | some b => some b
  | none => match frz deep S d, frz deep S e with
    | some p, some q => if SeqAt.shaped p = true ∧ SeqAt.shaped q = true then some (PyData.eqv p q) else none
    | _, _ => none
def oEq : Op := fun d e S => match dEq S d e with
  | some b => .ok (.bl b) S
  | none => .bad
def oNe : Op := fun d e S => match dEq S d e with
  | some b => .ok (.bl !b) S
  | none => .bad
theorem sEq_of {K : PySem.W.Frag} {μ : List Addr} {H : Hp} {x y : V} {d e : D} {b : Bool} (rx : RV K μ H x d) (ry : RV K μ H y e) (h : sEq d e = some b) : scal x y = true ∧ decide (x = y) = b := by
  cases rx <;> cases ry <;> first
    | (cases h; exact ⟨rfl, by simp⟩)
    | (cases h)
theorem od_eq (hu : X.A.units + 64 < cLine) : OpD X T (compareOp .Eq) oEq := by
  refine ⟨_, op_eq.or (op_eqD hu), fun W σ μ S H x y d e Q hs rx ry h => ?_⟩
  unfold oEq at h
  split at h
  · rename_i b hb
    unfold dEq at hb
    split at hb
    · cases hb
      obtain ⟨h1, h2⟩ := sEq_of rx ry ‹_›
      refine .inl ⟨h1, ?_⟩
      rw [h2]
      exact wR.here hs h (.bl _)
    · split at hb
      · split at hb
        · cases hb
          obtain ⟨h1, h2⟩ := ‹_ ∧ _›
          exact .inr ⟨_, _, frz_dp hs _ rx ‹_›, frz_dp hs _ ry ‹_›, h1, h2, wR.here hs h (.bl _)⟩
        · cases hb
      · cases hb
  · exact h.elim
theorem od_ne (hu : X.A.units + 64 < cLine) : OpD X T (compareOp .NotEq) oNe := by
  refine ⟨_, op_ne.or (op_neD hu), fun W σ μ S H x y d e Q hs rx ry h => ?_⟩
  unfold oNe at h
  split at h
  · rename_i b hb
    unfold dEq at hb
    split at hb
    · cases hb
      obtain ⟨h1, h2⟩ := sEq_of rx ry ‹_›
      refine .inl ⟨h1, ?_⟩
      rw [h2]
      exact wR.here hs h (.bl _)
    · split at hb
      · split at hb
        · cases hb
          obtain ⟨h1, h2⟩ := ‹_ ∧ _›
          exact .inr ⟨_, _, frz_dp hs _ rx ‹_›, frz_dp hs _ ry ‹_›, h1, h2, wR.here hs h (.bl _)⟩
        · cases hb
      · cases hb
  · exact h.elim
end
end DL

set_option Elab.async false
set_option linter.all false
set_option maxRecDepth 100000
set_option maxHeartbeats 1000000
namespace DL
open PySem L2
section
variable {X : Cx} {T : Gt} {W : WX}
def flatD : D → Bool
  | .non => true | .bl _ => true | .int _ => true | .str _ => true
  | _ => false
def eqF : D → D → Bool
  | .non, .non => true
  | .bl a, .bl b => a == b
  | .bl a, .int b => (if a then 1 else 0) == b
  | .int a, .bl b => a == (if b then 1 else 0)
  | .int a, .int b => a == b
  | .str a, .str b => a == b
  | _, _ => false
theorem flat_of {K : PySem.W.Frag} {μ : List Addr} {H : Hp} {v : V} {d : D} (r : RV K μ H v d) : flatV v = flatD d := by cases r <;> rfl
theorem eqF_of {K : PySem.W.Frag} {μ : List Addr} {H : Hp} {x y : V} {d e : D} (r : RV K μ H x d) (r' : RV K μ H y e) : eqV x y = eqF d e := by cases r <;> cases r' <;> rfl
theorem flats_of {K : PySem.W.Frag} {μ : List Addr} {H : Hp} : ∀ {vs : List V} {ds : List D}, RVs K μ H vs ds → vs.all flatV = ds.all flatD
  | _, _, .nil => rfl
  | _, _, .cons h t => by rw [List.all_cons, List.all_cons, flat_of h, flats_of t]
theorem inV_of {K : PySem.W.Frag} {μ : List Addr} {H : Hp} {x : V} {d : D} (r : RV K μ H x d) : ∀ {vs : List V} {ds : List D}, RVs K μ H vs ds → inV x vs = ds.any fun e => eqF e d
  | _, _, .nil => rfl
  | v :: vs, e :: ds, .cons h t => by
    have q := inV_of r t
    unfold inV at q ⊢
    rw [List.any_cons, List.any_cons, eqF_of h r, q]
def items (S : Sto) : D → Option (List D)
  | .tup ds => some ds
  | .seq ds => some ds
  | .ref n => match S[n]? with
    | some (.lst ds) => some ds
    | _ => none
  | _ => none
theorem items_of {G : Gc} {μ : List Addr} {S : Sto} {H : Hp} (hs : HS G μ S H) {v : V} {d : D} {ds : List D} (r : RV G.K μ H v d) (e : items S d = some ds) : ∃ a xs, v = .ref a ∧ (SqL G.K H a xs ∨ SqT G.K H a xs) ∧ RVs G.K μ H xs ds := by
  cases r with
  | tup t _ rs => cases e; exact ⟨_, _, rfl, .inr t.sq, rs⟩
  | seq t rs => cases e; exact ⟨_, _, rfl, .inl t.sq, rs⟩
  | ref q =>
    simp only [items] at e
    split at e
    · cases e
      obtain ⟨a, xs, ev, ea, ha, ra⟩ := hs.lst (RV.ref q) ‹_›
      exact ⟨a, xs, ev, .inl (.inl (.inl ha)), ra⟩
    · cases e
  | _ => cases e
def inD (S : Sto) (d e : D) : Option Bool := match d, e with
  | .str x, .str y => if x.cps.size = 1 then some (decide (x.cps.getD 0 0 ∈ y.cps.toList)) else none
  | d, e => match items S e with
    | some ds => if flatD d = true ∧ ds.all flatD = true then some (ds.any fun z => eqF z d) else
      match frz deep S d, frz deep S e with
      | some p, some (.list ps) => if SeqAt.shaped p = true ∧ SeqAt.shaped (.list ps) = true then some (ps.any fun z => PyData.eqv z p) else none
      | some p, some (.tuple ps) => if SeqAt.shaped p = true ∧ SeqAt.shaped (.tuple ps) = true then some (ps.any fun z => PyData.eqv z p) else none
      | _, _ => none
    | none => none
def oIn : Op := fun d e S => match inD S d e with
  | some b => .ok (.bl b) S
  | none => .bad
def oNotIn : Op := fun d e S => match inD S d e with
  | some b => .ok (.bl !b) S
  | none => .bad
theorem sign_eta {x : Str} (h : x.cps.size = 1) : x = ⟨#[x.cps.getD 0 0]⟩ := by
  obtain ⟨c⟩ := x
  obtain ⟨l⟩ := c
  match l, h with
  | [a], _ => rfl
theorem inD_to {G : Gc} {σ : L2.St} {μ : List Addr} {S : Sto} {H : Hp} {x y : V} {d e : D} {b : Bool} (hs : HS G μ S H) (rx : RV G.K μ H x d) (ry : RV G.K μ H y e) (h : inD S d e = some b) (neg : Bool) {Q : VK} (q : Q (.bl (if neg then !b else b)) H) :
    (∃ c z, x = V.str ⟨#[c]⟩ ∧ y = V.str z ∧ Q (.bl (if neg then !(decide (c ∈ z.cps.toList)) else decide (c ∈ z.cps.toList))) H) ∨ rIn G.K neg x y H Q ∨
    (∃ p ps, Dp G.K H x p ∧ Dp G.K H y (.list ps) ∧ SeqAt.shaped p = true ∧ SeqAt.shaped (.list ps) = true ∧ Q (.bl (if neg then !(ps.any fun z => PyData.eqv z p) else (ps.any fun z => PyData.eqv z p))) H) ∨
    (∃ p ps, Dp G.K H x p ∧ Dp G.K H y (.tuple ps) ∧ SeqAt.shaped p = true ∧ SeqAt.shaped (.tuple ps) = true ∧ Q (.bl (if neg then !(ps.any fun z => PyData.eqv z p) else (ps.any fun z => PyData.eqv z p))) H) := by
  unfold inD at h
  split at h
  · split at h
    · rename_i hx
      cases h
      cases rx
      cases ry
      exact .inl ⟨_, _, congrArg V.str (sign_eta hx), rfl, q⟩
    · cases h
  · split at h
    · rename_i ds hd
      split at h
      · rename_i hf
        cases h
        obtain ⟨a, xs, ev, hq, rs⟩ := items_of hs ry hd
        refine .inr (.inl ⟨a, xs, ev, hq, by rw [flat_of rx]; exact hf.1, by rw [flats_of rs]; exact hf.2, ?_⟩)
        rw [inV_of rx rs]
        exact q
      · split at h
        · split at h
          · rename_i hsh
            cases h
            exact .inr (.inr (.inl ⟨_, _, frz_dp hs _ rx ‹_›, frz_dp hs _ ry ‹_›, hsh.1, hsh.2, q⟩))
          · cases h
        · split at h
          · rename_i hsh
            cases h
            exact .inr (.inr (.inr ⟨_, _, frz_dp hs _ rx ‹_›, frz_dp hs _ ry ‹_›, hsh.1, hsh.2, q⟩))
          · cases h
        · cases h
    · cases h
theorem od_in (hu : X.A.units + 65 < cLine) : OpD X T (compareOp .In) oIn := by
  refine ⟨_, op_in_sign.or (op_in_seq.or ((op_inD hu).or (op_inTD hu))), fun W σ μ S H x y d e Q hs rx ry h => ?_⟩
  unfold oIn at h
  split at h
  · exact inD_to (σ := σ) hs rx ry ‹_› false (wR.here hs h (.bl _))
  · exact h.elim
theorem od_notIn (hu : X.A.units + 65 < cLine) : OpD X T (compareOp .NotIn) oNotIn := by
  refine ⟨_, op_notIn_sign.or (op_notIn_seq.or ((op_notInD hu).or (op_notInTD hu))), fun W σ μ S H x y d e Q hs rx ry h => ?_⟩
  unfold oNotIn at h
  split at h
  · exact inD_to (σ := σ) hs rx ry ‹_› true (wR.here hs h (.bl _))
  · exact h.elim

def oIx : Op := fun d e S => match d, e with
  | .str z, .int i => if z.length ≤ big then (match atI z.cps.toList i with
    | some c => .ok (.str ⟨#[c]⟩) S
    | none => .bad) else .bad
  | d, .int i => match items S d with
    | some ds => (match atI ds i with
      | some x => .ok x S
      | none => .bad)
    | none => .bad
  | _, _ => .bad
theorem atI_of {K : PySem.W.Frag} {μ : List Addr} {H : Hp} {vs : List V} {ds : List D} {i : Int} {d : D} (r : RVs K μ H vs ds) (e : atI ds i = some d) : ∃ v, atI vs i = some v ∧ RV K μ H v d := by
  unfold atI at e ⊢
  rw [r.length]
  obtain ⟨j, e1, e2⟩ := Option.bind_eq_some_iff.mp e
  obtain ⟨v, h1, h2⟩ := r.get e2
  exact ⟨v, by rw [e1]; exact h1, h2⟩
theorem pd_ix {a b : Expr} {da db : Den} {pos : Pos} (ha : PE X a (tD (gx X T) W da)) (hb : PE X b (tD (gx X T) W db)) (hp : PlainIx b := by exact fun _ _ => rfl) : PE X (.Subscript a b pos) (tD (gx X T) W (dBin oIx da db)) := by
  refine (pe_ix (ix_str.or (ix_list.or ix_tup)) ha hb hp).imp (bin_to fun W σ μ S H x y d e Q hs rx ry h => ?_)
  unfold oIx at h
  split at h
  · split at h
    · split at h
      · cases rx
        cases ry
        exact .inl ⟨_, _, _, rfl, rfl, big_ok ‹_›, ‹_›, wR.here hs h (.str _)⟩
      · exact h.elim
    · exact h.elim
  · split at h
    · split at h
      · cases ry
        obtain ⟨p, xs, ev, hq, rs⟩ := items_of hs rx ‹_›
        obtain ⟨v, h1, h2⟩ := atI_of rs ‹_›
        subst ev
        rcases hq with hq | hq
        · exact .inr (.inl ⟨_, _, _, _, rfl, rfl, hq, h1, wR.here hs h h2⟩)
        · exact .inr (.inr ⟨_, _, _, _, rfl, rfl, hq, h1, wR.here hs h h2⟩)
      · exact h.elim
    · exact h.elim
  · exact h.elim
def cutD (xs : List D) (lo hi : Option Int) : List D := (xs.drop (HT.sIx xs.length 0 lo)).take (HT.sIx xs.length xs.length hi - HT.sIx xs.length 0 lo)
theorem cut_of {K : PySem.W.Frag} {μ : List Addr} {H : Hp} {vs : List V} {ds : List D} (r : RVs K μ H vs ds) (lo hi : Option Int) : RVs K μ H (cutV vs lo hi) (cutD ds lo hi) := by
  unfold cutV cutD
  rw [r.length]
  exact (r.drop _).take _
def oSl (d : D) (lo hi : Option Int) (S : Sto) : R D := match d with
  | .str z => if z.length ≤ big then .ok (.str (cutS z lo hi)) S else .bad
  | .tup ds => .ok (.tup (cutD ds lo hi)) S
  | .seq ds => if ds.length ≤ big then .ok (.ref S.length) (S ++ [.lst (cutD ds lo hi)]) else .bad
  | .ref n => match S[n]? with
    | some (.lst ds) => if ds.length ≤ big then .ok (.ref S.length) (S ++ [.lst (cutD ds lo hi)]) else .bad
    | _ => .bad
  | _ => .bad
def dNoPart : DenO := fun _ S => .ok none S
def dPart (a : Den) : DenO := fun ε S => (a ε S).bind fun d S => match d with
  | .int i => .ok (some i) S
  | _ => .bad
theorem _root_.L2.PO.imp {X : Cx} {e : Option Expr} {t t' : TO} (h : PO X e t) (q : ∀ σ H Q, t' σ H Q → t σ H Q) : PO X e t' := ⟨fun pins s σ H Q I z => h.run pins s σ H Q I (q _ _ _ z)⟩
theorem pod_none : PO X none (tDO (gx X T) W dNoPart) := po_none.imp fun _ _ _ ⟨_, _, _, _, hs, h⟩ => wR.here hs h rfl
theorem pod_some {e : Expr} {a : Den} (ha : PE X e (tD (gx X T) W a)) : PO X (some e) (tDO (gx X T) W (dPart a)) :=
  (po_some ha).imp fun σ H Q ⟨ε, μ, S, sr, hs, h⟩ => ⟨ε, μ, S, sr, hs, (wR.bind (Rl := rlV (gx X T)) sr h).imp fun v H1 ⟨d, μ1, S1, g1, hs1, sr1, r1, h1⟩ => by
    have r1 : RV X.K μ1 H1 v d := r1
    cases r1 with
    | int i => exact ⟨i, rfl, wR.here hs1 h1 rfl⟩
    | _ => exact h1.elim⟩
def dSl (a : Den) (lo hi : DenO) : Den := fun ε S => (a ε S).bind fun d S => (lo ε S).bind fun l S => (hi ε S).bind fun u S => oSl d l u S
theorem cutD_whole {vs : List D} {lo hi : Option Int} (h : HT.sIx vs.length 0 lo = 0 ∧ HT.sIx vs.length vs.length hi = vs.length) : cutD vs lo hi = vs := by
  unfold cutD
  rw [h.1, h.2]
  simp
theorem pd_sl {e : Expr} {lo hi : Option Expr} {a : Den} {dl dh : DenO} {pos p2 : Pos} (ha : PE X e (tD (gx X T) W a)) (hl : PO X lo (tDO (gx X T) W dl)) (hh : PO X hi (tDO (gx X T) W dh)) : PE X (.Subscript e (.Slice lo hi none p2) pos) (tD (gx X T) W (dSl a dl dh)) :=
  (pe_slice (sl_str.or (sl_list.or sl_tupB)) ha hl hh).imp fun σ H Q ⟨ε, μ, S, sr, hs, h⟩ => ⟨ε, μ, S, sr, hs, (wR.bind (Rl := rlV (gx X T)) sr h).imp fun v H1 ⟨d, μ1, S1, g1, hs1, sr1, r1, h1⟩ =>
    ⟨ε, μ1, S1, sr1, hs1, (wR.bind (Rl := rlO) sr1 h1).imp fun l H2 ⟨l', μ2, S2, g2, hs2, sr2, r2, h2⟩ =>
      ⟨ε, μ2, S2, sr2, hs2, (wR.bind (Rl := rlO) sr2 h2).imp fun u H3 ⟨u', μ3, S3, g3, hs3, sr3, r3, h3⟩ => by
        have e1 : l = l' := r2
        have e2 : u = u' := r3
        subst e1 e2
        have rx : RV X.K μ3 H3 v d := RV.mono (g2.trans g3) r1
        unfold oSl at h3
        split at h3
        · split at h3
          · cases rx
            exact .inl ⟨_, rfl, big_ok ‹_›, wR.here hs3 h3 (.str _)⟩
          · exact h3.elim
        · cases rx with
          | tup t bt rs =>
            refine .inr (.inr ⟨_, _, rfl, t.sq, fun z => ?_, fun _ => ?_⟩)
            · rw [rs.length] at z
              rw [cutD_whole z] at h3
              exact wR.here hs3 h3 (.tup t bt rs)
            · exact newT_of hs3 (cut_of rs _ _) h3
        · split at h3
          · cases rx with
            | seq t rs =>
              exact .inr (.inl ⟨_, _, rfl, t.sq, fun p hp => h3 _ _ _ (Gr.obj hp) (hs3.grow hp ⟨_, upd_same, (cut_of rs _ _).mono (Gr.obj hp)⟩) (.ref hs3.last)⟩)
          · exact h3.elim
        · split at h3
          · split at h3
            · obtain ⟨p, xs, rfl, ea, hp', rs⟩ := hs3.lst rx ‹_›
              exact .inr (.inl ⟨_, _, rfl, .inl (.inl hp'), fun p hp => h3 _ _ _ (Gr.obj hp) (hs3.grow hp ⟨_, upd_same, (cut_of rs _ _).mono (Gr.obj hp)⟩) (.ref hs3.last)⟩)
            · exact h3.elim
          · exact h3.elim
        · exact h3.elim⟩⟩⟩

def bAnd (a b : DenB) : DenB := fun ε S => (a ε S).bind fun c S => if c = true then b ε S else .ok false S
def bOr (a b : DenB) : DenB := fun ε S => (a ε S).bind fun c S => if c = true then .ok true S else b ε S
def bNot (a : DenB) : DenB := fun ε S => (a ε S).bind fun c S => .ok (!c) S
section
variable {a b c : Expr} {rest : List Expr} {da db dc : Den} {ba bb : DenB} {pos : Pos}
theorem pwd_and1 (ha : PT X a (tDB (gx X T) W ba)) : PW X (.BoolOp .And [a] pos) (tDB (gx X T) W ba) := pw_and1 ha
theorem pwd_or1 (ha : PT X a (tDB (gx X T) W ba)) : PW X (.BoolOp .Or [a] pos) (tDB (gx X T) W ba) := pw_or1 ha
theorem pwd_and (ha : PT X a (tDB (gx X T) W ba)) (hb : PW X (.BoolOp .And (b :: rest) pos) (tDB (gx X T) W bb)) : PW X (.BoolOp .And (a :: b :: rest) pos) (tDB (gx X T) W (bAnd ba bb)) :=
  (pw_and ha hb).imp fun σ H Q ⟨ε, μ, S, sr, hs, h⟩ => ⟨ε, μ, S, sr, hs, (wR.bind (Rl := rlB) sr h).imp fun v H1 ⟨d, μ1, S1, g1, hs1, sr1, r1, h1⟩ => by
    have r1 : v = d := r1
    subst r1
    cases v with
    | true => exact ⟨ε, μ1, S1, sr1, hs1, h1⟩
    | false => exact wR.here hs1 h1 rfl⟩
theorem pwd_or (ha : PT X a (tDB (gx X T) W ba)) (hb : PW X (.BoolOp .Or (b :: rest) pos) (tDB (gx X T) W bb)) : PW X (.BoolOp .Or (a :: b :: rest) pos) (tDB (gx X T) W (bOr ba bb)) :=
  (pw_or ha hb).imp fun σ H Q ⟨ε, μ, S, sr, hs, h⟩ => ⟨ε, μ, S, sr, hs, (wR.bind (Rl := rlB) sr h).imp fun v H1 ⟨d, μ1, S1, g1, hs1, sr1, r1, h1⟩ => by
    have r1 : v = d := r1
    subst r1
    cases v with
    | true => exact wR.here hs1 h1 rfl
    | false => exact ⟨ε, μ1, S1, sr1, hs1, h1⟩⟩
theorem ptd_not (ha : PT X a (tDB (gx X T) W ba)) : PT X (.UnaryOp .Not a pos) (tDB (gx X T) W (bNot ba)) :=
  (pt_not ha).imp fun σ H Q ⟨ε, μ, S, sr, hs, h⟩ => ⟨ε, μ, S, sr, hs, (wR.bind (Rl := rlB) sr h).imp fun v H1 ⟨d, μ1, S1, g1, hs1, sr1, r1, h1⟩ => by
    have r1 : v = d := r1
    subst r1
    exact wR.here hs1 h1 rfl⟩
def dAndV (a b : Den) : Den := fun ε S => (a ε S).bind fun c S => match c with
  | .bl true => b ε S
  | .bl false => .ok (.bl false) S
  | _ => .bad
def dOrV (a b : Den) : Den := fun ε S => (a ε S).bind fun c S => match c with
  | .bl true => .ok (.bl true) S
  | .bl false => b ε S
  | _ => .bad
def dNotV (a : Den) : Den := fun ε S => (a ε S).bind fun c S => match c with
  | .bl b => .ok (.bl !b) S
  | _ => .bad
theorem pd_one {op : BoolOp} (ha : PE X a (tD (gx X T) W da)) : PE X (.BoolOp op [a] pos) (tD (gx X T) W da) := pe_one ha
theorem pd_and (ha : PE X a (tD (gx X T) W da)) (hb : PE X (.BoolOp .And (b :: rest) pos) (tD (gx X T) W db)) : PE X (.BoolOp .And (a :: b :: rest) pos) (tD (gx X T) W (dAndV da db)) :=
  (pe_and ha hb).imp fun σ H Q ⟨ε, μ, S, sr, hs, h⟩ => ⟨ε, μ, S, sr, hs, (wR.bind (Rl := rlV (gx X T)) sr h).imp fun v H1 ⟨d, μ1, S1, g1, hs1, sr1, r1, h1⟩ => by
    have r1 : RV X.K μ1 H1 v d := r1
    cases r1 with
    | bl k =>
      refine ⟨k, rfl, ?_⟩
      cases k with
      | true => exact ⟨ε, μ1, S1, sr1, hs1, h1⟩
      | false => exact wR.here hs1 h1 (.bl _)
    | _ => exact h1.elim⟩
theorem pd_or (ha : PE X a (tD (gx X T) W da)) (hb : PE X (.BoolOp .Or (b :: rest) pos) (tD (gx X T) W db)) : PE X (.BoolOp .Or (a :: b :: rest) pos) (tD (gx X T) W (dOrV da db)) :=
  (pe_or ha hb).imp fun σ H Q ⟨ε, μ, S, sr, hs, h⟩ => ⟨ε, μ, S, sr, hs, (wR.bind (Rl := rlV (gx X T)) sr h).imp fun v H1 ⟨d, μ1, S1, g1, hs1, sr1, r1, h1⟩ => by
    have r1 : RV X.K μ1 H1 v d := r1
    cases r1 with
    | bl k =>
      refine ⟨k, rfl, ?_⟩
      cases k with
      | true => exact wR.here hs1 h1 (.bl _)
      | false => exact ⟨ε, μ1, S1, sr1, hs1, h1⟩
    | _ => exact h1.elim⟩
theorem pd_not (ha : PE X a (tD (gx X T) W da)) : PE X (.UnaryOp .Not a pos) (tD (gx X T) W (dNotV da)) :=
  (pe_not ha).imp fun σ H Q ⟨ε, μ, S, sr, hs, h⟩ => ⟨ε, μ, S, sr, hs, (wR.bind (Rl := rlV (gx X T)) sr h).imp fun v H1 ⟨d, μ1, S1, g1, hs1, sr1, r1, h1⟩ => by
    have r1 : RV X.K μ1 H1 v d := r1
    cases r1 with
    | bl k => exact ⟨k, rfl, wR.here hs1 h1 (.bl _)⟩
    | _ => exact h1.elim⟩
def dIf (c : DenB) (a b : Den) : Den := fun ε S => (c ε S).bind fun k S => if k = true then a ε S else b ε S
end
end
end DL

set_option Elab.async false
set_option linter.all false
set_option maxRecDepth 100000
set_option maxHeartbeats 1000000
namespace DL
open PySem L2
section
variable {X : Cx} {T : Gt} {W : WX}
abbrev Fn := List D → Sto → R D
def CallD (X : Cx) (T : Gt) (f : Value) (o : Fn) : Prop :=
  ∃ r, CallR X f r ∧ ∀ (W : WX) σ μ S H vs ds Q, HS (gx X T) μ S H → RVs X.K μ H vs ds → wR (gx X T) W (rlV (gx X T)) (o ds S) σ μ H Q → r vs H Q
def dFn (o : Fn) (a : DenA) : Den := fun ε S => (a ε S).bind fun ds S => o ds S
theorem fn_to {o : Fn} {r : List V → Hp → VK → Prop} {a : DenA} (ho : ∀ (W : WX) σ μ S H vs ds Q, HS (gx X T) μ S H → RVs X.K μ H vs ds → wR (gx X T) W (rlV (gx X T)) (o ds S) σ μ H Q → r vs H Q) :
    ∀ σ H Q, tD (gx X T) W (dFn o a) σ H Q → tCB r (tDA (gx X T) W a) σ H Q := fun σ H Q ⟨ε, μ, S, sr, hs, h⟩ =>
  ⟨ε, μ, S, sr, hs, (wR.bind (Rl := rlA (gx X T)) sr h).imp fun v H1 ⟨d, μ1, S1, g1, hs1, sr1, r1, h1⟩ => ho W σ μ1 S1 H1 v d Q hs1 r1 h1⟩
theorem pd_callB {x : Str} {p pos : Pos} {e : Expr} {es : List Expr} {a : DenA} {id : String} {o : Fn} (ho : CallD X T (.builtin id) o) (hg : Gl X x) (hm : X.mg x = none) (hb : bootBuiltins x = some (.builtin id)) (ha : PA X (e :: es) (tDA (gx X T) W a))
    (hn : x ≠ "__name__" := by decide) (hd : (x == ("__debug__" : Str)) = false := by decide) (he : starEach (e :: es) X.env = (false, eval e X.env) :: starEach es X.env := by rfl) (hpl : (backTo pos (starEach es X.env)).any (·.1) = false := by rfl) :
    PE X (.Call (.Name x p) (e :: es) [] pos) (tD (gx X T) W (dFn o a)) := by
  obtain ⟨r, hr, q⟩ := ho
  exact (pe_callB hr hg hm hb ha hn hd he hpl).imp (fn_to q)
theorem pd_callTy {x : Str} {p pos : Pos} {e : Expr} {es : List Expr} {a : DenA} {id : String} {o : Fn} (ho : CallD X T (.type id) o) (hg : Gl X x) (hm : X.mg x = none) (hb : bootBuiltins x = some (.type id)) (ha : PA X (e :: es) (tDA (gx X T) W a))
    (hn : x ≠ "__name__" := by decide) (hd : (x == ("__debug__" : Str)) = false := by decide) (he : starEach (e :: es) X.env = (false, eval e X.env) :: starEach es X.env := by rfl) (hpl : (backTo pos (starEach es X.env)).any (·.1) = false := by rfl) :
    PE X (.Call (.Name x p) (e :: es) [] pos) (tD (gx X T) W (dFn o a)) := by
  obtain ⟨r, hr, q⟩ := ho
  exact (pe_callTy hr hg hm hb ha hn hd he hpl).imp (fn_to q)
theorem one_of {K : PySem.W.Frag} {μ : List Addr} {H : Hp} {vs : List V} {d : D} (r : RVs K μ H vs [d]) : ∃ v, vs = [v] ∧ RV K μ H v d := by
  cases r with
  | cons h t => cases t; exact ⟨_, rfl, h⟩
theorem two_of {K : PySem.W.Frag} {μ : List Addr} {H : Hp} {vs : List V} {d e : D} (r : RVs K μ H vs [d, e]) : ∃ v w, vs = [v, w] ∧ RV K μ H v d ∧ RV K μ H w e := by
  cases r with
  | cons h t =>
    obtain ⟨w, rfl, r⟩ := one_of t
    exact ⟨_, _, rfl, h, r⟩
def fLen : Fn := fun ds S => match ds with
  | [.str z] => if z.length ≤ big then .ok (.int z.length) S else .bad
  | [d] => (match items S d with
    | some xs => .ok (.int xs.length) S
    | none => .bad)
  | _ => .bad
theorem cd_len : CallD X T (.builtin "len") fLen := by
  refine ⟨_, call_len, fun W σ μ S H vs ds Q hs r h => ?_⟩
  unfold fLen at h
  split at h
  · split at h
    · obtain ⟨v, rfl, r1⟩ := one_of r
      cases r1
      exact ⟨.str _, _, rfl, ⟨big_ok ‹_›, rfl⟩, wR.here hs h (.int _)⟩
    · exact h.elim
  · split at h
    · obtain ⟨v, rfl, r1⟩ := one_of r
      obtain ⟨a, xs, rfl, hq, rs⟩ := items_of hs r1 ‹_›
      refine ⟨.ref a, xs.length, rfl, ?_, ?_⟩
      · rcases hq with hq | hq
        · exact .inl ⟨_, hq, rfl⟩
        · exact .inr ⟨_, hq, rfl⟩
      · rw [rs.length]
        exact wR.here hs h (.int _)
    · exact h.elim
  · exact h.elim
def fInt : Fn := fun ds S => match ds with
  | [.int i] => .ok (.int i) S
  | [.bl b] => .ok (.int (if b then 1 else 0)) S
  | _ => .bad
theorem cd_int : CallD X T (.type "int") fInt := by
  refine ⟨_, call_int1, fun W σ μ S H vs ds Q hs r h => ?_⟩
  unfold fInt at h
  split at h
  · obtain ⟨v, rfl, r1⟩ := one_of r
    cases r1
    exact .inl ⟨_, rfl, wR.here hs h (.int _)⟩
  · obtain ⟨v, rfl, r1⟩ := one_of r
    cases r1
    exact .inr ⟨_, rfl, wR.here hs h (.int _)⟩
  · exact h.elim
def fList : Fn := fun ds S => match ds with
  | [d] => (match items S d with
    | some xs => .ok (.ref S.length) (S ++ [.lst xs])
    | none => .bad)
  | _ => .bad
theorem cd_list : CallD X T (.type "list") fList := by
  refine ⟨_, call_list_of, fun W σ μ S H vs ds Q hs r h => ?_⟩
  unfold fList at h
  split at h
  · split at h
    · obtain ⟨v, rfl, r1⟩ := one_of r
      obtain ⟨a, xs, rfl, hq, rs⟩ := items_of hs r1 ‹_›
      exact ⟨_, _, rfl, hq, fun p hp => h _ _ _ (Gr.obj hp) (hs.grow hp ⟨_, upd_same, rs.mono (Gr.obj hp)⟩) (.ref hs.last)⟩
    · exact h.elim
  · exact h.elim
def fTuple : Fn := fun ds S => match ds with
  | [d] => (match items S d with
    | some xs => .ok (.tup xs) S
    | none => .bad)
  | _ => .bad
theorem cd_tuple : CallD X T (.type "tuple") fTuple := by
  refine ⟨_, call_tupleB, fun W σ μ S H vs ds Q hs r h => ?_⟩
  unfold fTuple at h
  split at h
  · split at h
    · rename_i d xs0 he
      obtain ⟨v, rfl, r1⟩ := one_of r
      cases r1 with
      | tup t bt rs =>
        cases he
        exact ⟨_, _, rfl, .inr ⟨t.sq, wR.here hs h (.tup t bt rs)⟩⟩
      | seq t rs =>
        cases he
        exact ⟨_, _, rfl, .inl ⟨t.sq, newT_of hs rs h⟩⟩
      | ref q =>
        simp only [items] at he
        split at he
        · cases he
          obtain ⟨a, xs, ev, ea, ha, ra⟩ := hs.lst (RV.ref q) ‹_›
          cases ev
          exact ⟨_, _, rfl, .inl ⟨.inl (.inl ha), newT_of hs ra h⟩⟩
        · cases he
      | _ => cases he
    · exact h.elim
  · exact h.elim
def litems (S : Sto) : D → Option (List D)
  | .seq ds => some ds
  | .ref n => match S[n]? with
    | some (.lst ds) => some ds
    | _ => none
  | _ => none
theorem litems_of {G : Gc} {μ : List Addr} {S : Sto} {H : Hp} (hs : HS G μ S H) {v : V} {d : D} {ds : List D} (r : RV G.K μ H v d) (e : litems S d = some ds) : ∃ a xs, v = .ref a ∧ SqL G.K H a xs ∧ RVs G.K μ H xs ds := by
  cases r with
  | seq t rs => cases e; exact ⟨_, _, rfl, t.sq, rs⟩
  | ref q =>
    simp only [litems] at e
    split at e
    · cases e
      obtain ⟨a, xs, ev, ea, ha, ra⟩ := hs.lst (RV.ref q) ‹_›
      exact ⟨a, xs, ev, .inl (.inl ha), ra⟩
    · cases e
  | _ => cases e
def intD : D → Option Int
  | .int i => some i
  | _ => none
def blD : D → Option Bool
  | .bl i => some i
  | _ => none
def strD : D → Option Str
  | .str i => some i
  | _ => none
theorem fall_ints {ds : List D} {ns : List Int} (h : fall intD ds = some ns) : ds = ns.map D.int := by
  induction ds generalizing ns with
  | nil => cases h; rfl
  | cons d ds ih =>
    unfold fall at h
    split at h
    · cases h
      rename_i b s h1 h2
      rw [ih h2]
      cases d <;> cases h1
      rfl
    · cases h
theorem fall_bls {ds : List D} {ns : List Bool} (h : fall blD ds = some ns) : ds = ns.map D.bl := by
  induction ds generalizing ns with
  | nil => cases h; rfl
  | cons d ds ih =>
    unfold fall at h
    split at h
    · cases h
      rename_i b s h1 h2
      rw [ih h2]
      cases d <;> cases h1
      rfl
    · cases h
theorem fall_strs {ds : List D} {ns : List Str} (h : fall strD ds = some ns) : ds = ns.map D.str := by
  induction ds generalizing ns with
  | nil => cases h; rfl
  | cons d ds ih =>
    unfold fall at h
    split at h
    · cases h
      rename_i b s h1 h2
      rw [ih h2]
      cases d <;> cases h1
      rfl
    · cases h
def fLst (f : List D → Sto → R D) : Fn := fun ds S => match ds with
  | [d] => (match litems S d with
    | some xs => f xs S
    | none => .bad)
  | _ => .bad
def fSum : Fn := fLst fun xs S => match fall intD xs with
  | some ns => .ok (.int ns.sum) S
  | none => .bad
theorem cd_sum (hc : X.calm = true) : CallD X T (.builtin "sum") fSum := by
  refine ⟨_, cr_sum hc, fun W σ μ S H vs ds Q hs r h => ?_⟩
  unfold fSum fLst at h
  split at h
  · split at h
    · dsimp only at h
      split at h
      · rename_i he _ ns hn
        obtain ⟨v, rfl, r1⟩ := one_of r
        obtain ⟨a, xs, rfl, hq, rs⟩ := litems_of hs r1 he
        rw [fall_ints hn] at rs
        rw [rs.ints] at hq
        exact ⟨_, _, rfl, hq, wR.here hs h (.int _)⟩
      · exact h.elim
    · exact h.elim
  · exact h.elim
def fAll : Fn := fLst fun xs S => match fall blD xs with
  | some ns => .ok (.bl (ns.all id)) S
  | none => .bad
theorem cd_all (hc : X.calm = true) : CallD X T (.builtin "all") fAll := by
  refine ⟨_, cr_all hc, fun W σ μ S H vs ds Q hs r h => ?_⟩
  unfold fAll fLst at h
  split at h
  · split at h
    · dsimp only at h
      split at h
      · rename_i he _ ns hn
        obtain ⟨v, rfl, r1⟩ := one_of r
        obtain ⟨a, xs, rfl, hq, rs⟩ := litems_of hs r1 he
        rw [fall_bls hn] at rs
        rw [rs.bls] at hq
        exact ⟨_, _, rfl, hq, wR.here hs h (.bl _)⟩
      · exact h.elim
    · exact h.elim
  · exact h.elim
def fAny : Fn := fLst fun xs S => match fall blD xs with
  | some ns => .ok (.bl (ns.any id)) S
  | none => .bad
theorem cd_any (hc : X.calm = true) : CallD X T (.builtin "any") fAny := by
  refine ⟨_, cr_any hc, fun W σ μ S H vs ds Q hs r h => ?_⟩
  unfold fAny fLst at h
  split at h
  · split at h
    · dsimp only at h
      split at h
      · rename_i he _ ns hn
        obtain ⟨v, rfl, r1⟩ := one_of r
        obtain ⟨a, xs, rfl, hq, rs⟩ := litems_of hs r1 he
        rw [fall_bls hn] at rs
        rw [rs.bls] at hq
        exact ⟨_, _, rfl, hq, wR.here hs h (.bl _)⟩
      · exact h.elim
    · exact h.elim
  · exact h.elim
def tyD (S : Sto) : D → Option String
  | .non => some "NoneType"
  | .bl _ => some "bool"
  | .int _ => some "int"
  | .str _ => some "str"
  | .tup _ => some "tuple"
  | .seq _ => some "list"
  | .ref n => match S[n]? with
    | some (.lst _) => some "list"
    | some (.dct _) => some "dict"
    | _ => none
theorem ty_of {G : Gc} {μ : List Addr} {S : Sto} {H : Hp} (hs : HS G μ S H) {v : V} {d : D} {t : String} (r : RV G.K μ H v d) (e : tyD S d = some t) : TyX G.K H v (.type t) := by
  cases r with
  | non => cases e; exact .base .non
  | bl b => cases e; exact .base (.bl b)
  | int i => cases e; exact .base (.int i)
  | str x => cases e; exact .base (.str x)
  | tup t _ rs =>
    cases e
    rcases t.2 with q | ⟨o, q⟩
    · exact .base (.tup q)
    · exact .fTuple q
  | seq t rs =>
    cases e
    rcases t with ⟨_, o, t⟩ | ⟨o, its, n, h1, h2, _⟩
    · exact .base (.frz t)
    · exact .kList h1 h2
  | ref q =>
    simp only [tyD] at e
    split at e
    · cases e
      obtain ⟨a, xs, ev, ea, ha, ra⟩ := hs.lst (RV.ref q) ‹_›
      cases ev
      exact .base (.lst ha)
    · cases e
      obtain ⟨a, xs, ev, ea, ha, ra⟩ := hs.dct (RV.ref q) ‹_›
      cases ev
      exact .base (.dK ha)
    · cases e
def isiD (c : String) (S : Sto) (d : D) : Option Bool := match tyD S d with
  | some t => kitB t c
  | none => none
def dIsi (c : String) (a : Den) : Den := fun ε S => (a ε S).bind fun d S => match isiD c S d with
  | some b => .ok (.bl b) S
  | none => .bad
theorem pd_isi {c : String} {y : Str} {e : Expr} {a : Den} {p p2 pos : Pos} (hg : Gl X "isinstance") (hm : X.mg "isinstance" = none) (hgy : Gl X y) (hmy : X.mg y = none) (hb : bootBuiltins "isinstance" = some (.builtin "isinstance")) (hby : bootBuiltins y = some (.type c))
    (ha : PE X e (tD (gx X T) W a)) (hny : y ≠ "__name__" := by decide) (hdy : (y == ("__debug__" : Str)) = false := by decide)
    (he : starEach [e, .Name y p2] X.env = (false, eval e X.env) :: starEach [.Name y p2] X.env := by rfl) (hpl : (backTo pos (starEach [.Name y p2] X.env)).any (·.1) = false := by rfl) :
    PE X (.Call (.Name "isinstance" p) [e, .Name y p2] [] pos) (tD (gx X T) W (dIsi c a)) := by
  refine (pe_callB call_isi hg hm hb (pa_cons ha (pa_cons (pe_bltn (v := .ty c) (u := .type c) hgy hmy hby rfl hny hdy) pa_nil) he) (by decide) (by decide) he hpl).imp fun σ H Q ⟨ε, μ, S, sr, hs, h⟩ => ?_
  refine ⟨ε, μ, S, sr, hs, (wR.bind (Rl := rlV (gx X T)) sr h).imp fun v H1 ⟨d, μ1, S1, g1, hs1, sr1, r1, h1⟩ => ?_⟩
  split at h1
  · rename_i b hb'
    unfold isiD at hb'
    split at hb'
    · rename_i t ht
      exact ⟨_, _, _, _, b, rfl, .ty c, ty_of hs1 r1 ht, kit_ty hb', wR.here hs1 h1 (.bl _)⟩
    · cases hb'
  · exact h1.elim
end
end DL

set_option Elab.async false
set_option linter.all false
set_option maxRecDepth 100000
set_option maxHeartbeats 1000000
namespace L2
open PySem PySem.Spec PyProof.Rows
section
end
end L2
namespace DL
open PySem L2
section
variable {X : Cx} {T : Gt} {W : WX}
def valD {κ : Type} [DecidableEq κ] (kvs : List (κ × D)) (k : κ) : Option D := (kvs.find? fun kv => decide (kv.1 = k)).map (·.2)
def putD {κ : Type} [DecidableEq κ] (kvs : List (κ × D)) (k : κ) (v : D) : List (κ × D) :=
  if (kvs.any fun kv => decide (kv.1 = k)) = true then kvs.map (fun kv => if kv.1 = k then (kv.1, v) else kv) else kvs ++ [(k, v)]
section
variable {κ : Type} [DecidableEq κ] {K : PySem.W.Frag} {μ : List Addr} {H : Hp}
theorem RKs.val {ws : List (κ × V)} {ds : List (κ × D)} (r : RKs K μ H ws ds) (k : κ) : (valV ws k = none ∧ valD ds k = none) ∨ ∃ v d, valV ws k = some v ∧ valD ds k = some d ∧ RV K μ H v d := by
  induction r with
  | nil => exact .inl ⟨rfl, rfl⟩
  | @cons k' v vs d ds h t ih =>
    by_cases e : k' = k
    · exact .inr ⟨v, d, by simp [valV, List.find?_cons, e], by simp [valD, List.find?_cons, e], h⟩
    · have e1 : valV ((k', v) :: vs) k = valV vs k := by simp [valV, List.find?_cons, e]
      have e2 : valD ((k', d) :: ds) k = valD ds k := by simp [valD, List.find?_cons, e]
      rw [e1, e2]
      exact ih
theorem RKs.any {ws : List (κ × V)} {ds : List (κ × D)} (r : RKs K μ H ws ds) (k : κ) : (ws.any fun kv => decide (kv.1 = k)) = (ds.any fun kv => decide (kv.1 = k)) := by
  induction r with
  | nil => rfl
  | cons h t ih => rw [List.any_cons, List.any_cons, ih]
theorem RKs.append {ws ws' : List (κ × V)} {ds ds' : List (κ × D)} (r : RKs K μ H ws ds) (r' : RKs K μ H ws' ds') : RKs K μ H (ws ++ ws') (ds ++ ds') := by
  induction r with
  | nil => exact r'
  | cons h t ih => exact .cons h ih
theorem RKs.mapPut {ws : List (κ × V)} {ds : List (κ × D)} (r : RKs K μ H ws ds) (k : κ) {v : V} {d : D} (rv : RV K μ H v d) : RKs K μ H (ws.map fun kv => if kv.1 = k then (kv.1, v) else kv) (ds.map fun kv => if kv.1 = k then (kv.1, d) else kv) := by
  induction r with
  | nil => exact .nil
  | @cons k' v' vs d' ds h t ih =>
    rw [List.map_cons, List.map_cons]
    by_cases e : k' = k
    · simp only [e, if_true]
      exact .cons rv ih
    · simp only [e, if_false]
      exact .cons h ih
theorem RKs.put {ws : List (κ × V)} {ds : List (κ × D)} (r : RKs K μ H ws ds) (k : κ) {v : V} {d : D} (rv : RV K μ H v d) : RKs K μ H (putK ws k v) (putD ds k d) := by
  unfold putK putD
  rw [r.any k]
  split
  · exact r.mapPut k rv
  · exact r.append (.cons rv .nil)
end
def keyD : D → Option Key
  | .int i => some (.inl i)
  | .str x => some (.inr x)
  | _ => none
theorem key_of {K : PySem.W.Frag} {μ : List Addr} {H : Hp} {v : V} {d : D} {k : Key} (r : RV K μ H v d) (e : keyD d = some k) : v = kV k := by
  cases r <;> cases e <;> rfl
def dctAt (S : Sto) : D → Option (Nat × List (Key × D))
  | .ref n => match S[n]? with
    | some (.dct kvs) => some (n, kvs)
    | _ => none
  | _ => none
theorem dctAt_of {G : Gc} {μ : List Addr} {S : Sto} {H : Hp} (hs : HS G μ S H) {v : V} {d : D} {n : Nat} {kvs : List (Key × D)} (r : RV G.K μ H v d) (e : dctAt S d = some (n, kvs)) : ∃ a ws, v = .ref a ∧ μ[n]? = some a ∧ H a = some (.dK ws) ∧ RKs G.K μ H ws kvs := by
  cases r with
  | ref q =>
    simp only [dctAt] at e
    split at e
    · cases e
      exact hs.dct (RV.ref q) ‹_›
    · cases e
  | _ => cases e
def dGetI (a b : Den) : Den := fun ε S => (a ε S).bind fun d S => (b ε S).bind fun k S => match dctAt S d, keyD k with
  | some (_, kvs), some k => (match valD kvs k with
    | some v => .ok v S
    | none => .bad)
  | _, _ => .bad
def dGet2 (a b c : Den) : Den := fun ε S => (a ε S).bind fun d S => match dctAt S d with
  | some _ => (b ε S).bind fun k S => (c ε S).bind fun x S => (match dctAt S d, keyD k with
    | some (_, kvs), some k => .ok ((valD kvs k).getD x) S
    | _, _ => .bad)
  | none => .bad
theorem pd_dget {o i : Expr} {a b : Den} {pos : Pos} (hu : X.A.units + 1 < cLine) (ha : PE X o (tD (gx X T) W a)) (hb : PE X i (tD (gx X T) W b)) (hn : NoSl i := by exact fun _ _ => rfl) : PE X (.Subscript o i pos) (tD (gx X T) W (dGetI a b)) :=
  (pe_dget hu ha hb hn).imp fun σ H Q ⟨ε, μ, S, sr, hs, h⟩ => ⟨ε, μ, S, sr, hs, (wR.bind (Rl := rlV (gx X T)) sr h).imp fun v H1 ⟨d, μ1, S1, g1, hs1, sr1, r1, h1⟩ =>
    ⟨ε, μ1, S1, sr1, hs1, (wR.bind (Rl := rlV (gx X T)) sr1 h1).imp fun w H2 ⟨e, μ2, S2, g2, hs2, sr2, r2, h2⟩ => by
      split at h2
      · rename_i n kvs k hd hk
        split at h2
        · rename_i x hv
          obtain ⟨p, ws, rfl, en, hp, rk⟩ := dctAt_of hs2 (RV.mono g2 r1) hd
          have ek := key_of r2 hk
          subst ek
          rcases rk.val k with ⟨_, q⟩ | ⟨v', d', q1, q2, q3⟩
          · rw [hv] at q
            cases q
          · rw [hv] at q2
            cases q2
            refine ⟨p, v', rfl, ?_, wR.here hs2 h2 q3⟩
            rw [← q1]
            exact DGet.k hp
        · exact h2.elim
      · exact h2.elim⟩⟩
theorem pd_get2 {o e f : Expr} {a b c : Den} {apos cpos : Pos} (hu : X.A.units + 1 < cLine) (ha : PE X o (tD (gx X T) W a)) (hb : PE X e (tD (gx X T) W b)) (hc : PE X f (tD (gx X T) W c)) (m : M2 X o "get" apos e f cpos := by exact ⟨rfl, rfl, rfl, rfl⟩) :
    PE X (.Call (.Attribute o "get" apos) [e, f] [] cpos) (tD (gx X T) W (dGet2 a b c)) :=
  (pe_dget2 hu ha hb hc m).imp fun σ H Q ⟨ε, μ, S, sr, hs, h⟩ => ⟨ε, μ, S, sr, hs, (wR.bind (Rl := rlV (gx X T)) sr h).imp fun v H1 ⟨d, μ1, S1, g1, hs1, sr1, r1, h1⟩ => by
    split at h1
    · rename_i z hd1
      obtain ⟨n1, kvs1⟩ := z
      obtain ⟨p, ws, rfl, en, hp, rk⟩ := dctAt_of hs1 r1 hd1
      refine ⟨p, rfl, .inl ⟨ws, .inl hp⟩, ε, μ1, S1, sr1, hs1, (wR.bind (Rl := rlV (gx X T)) sr1 h1).imp fun w H2 ⟨e, μ2, S2, g2, hs2, sr2, r2, h2⟩ =>
        ⟨ε, μ2, S2, sr2, hs2, (wR.bind (Rl := rlV (gx X T)) sr2 h2).imp fun u H3 ⟨g, μ3, S3, g3, hs3, sr3, r3, h3⟩ => ?_⟩⟩
      split at h3
      · rename_i n kvs k hd hk
        obtain ⟨p', ws', ev, en', hp', rk'⟩ := dctAt_of hs3 (RV.mono (g2.trans g3) r1) hd
        cases ev
        have ek := key_of (RV.mono g3 r2) hk
        subst ek
        refine ⟨_, DGet.k hp', ?_⟩
        rcases rk'.val k with ⟨q1, q2⟩ | ⟨v', d', q1, q2, q3⟩
        · rw [q1]
          rw [q2] at h3
          exact wR.here hs3 h3 r3
        · rw [q1]
          rw [q2] at h3
          exact wR.here hs3 h3 q3
      · exact h3.elim
    · exact h1.elim⟩
def dNewK : Den := fun _ S => .ok (.ref S.length) (S ++ [.dct []])
theorem pd_dnew {pos : Pos} : PE X (.Dict [] [] pos) (tD (gx X T) W dNewK) :=
  pe_dnewK.imp fun σ H Q ⟨ε, μ, S, sr, hs, h⟩ p hp => h _ _ _ (Gr.obj hp) (hs.grow hp ⟨_, upd_same, .nil⟩) (.ref hs.last)

def putFD (f : Str) (v : D) : List (Str × D) → List (Str × D)
  | [] => [(f, v)]
  | (g, x) :: r => if g = f then (g, v) :: r else (g, x) :: putFD f v r
def insAt (S : Sto) : D → Option (Nat × Str × List (Str × D))
  | .ref n => match S[n]? with
    | some (.ins c fs) => some (n, c, fs)
    | _ => none
  | _ => none
def dFld (f : Str) (a : Den) : Den := fun ε S => (a ε S).bind fun d S => match insAt S d with
  | some (_, _, fs) => (match fs.lookup f with
    | some v => .ok v S
    | none => .bad)
  | none => .bad
def wF (G : Gc) (E : XK) (r : R D) (μ : List Addr) (H : Hp) (Q : VK) : Prop :=
  match r with
  | .ok d S' => ∀ v μ' H', Gr μ H μ' H' → HS G μ' S' H' → RV G.K μ' H' v d → Q v H'
  | .exc c S' => ∀ C μ' H', G.xA c = some C → Gr μ H μ' H' → HS G μ' S' H' → E (.ref C) none H'
  | .bad => False
def spD (G : Gc) (np : Nat) (F : Fn) : Sp := fun vs H Q E => ∃ μ S ds, vs.length = np ∧ HS G μ S H ∧ RVs G.K μ H vs ds ∧ wF G E (F ds S) μ H Q
theorem wR.toF {G : Gc} {r : R D} {σ : L2.St} {μ : List Addr} {H : Hp} {Q : VK} (h : wR G W (rlV G) r σ μ H Q) : wF G (WE W σ) r μ H Q := by
  cases r with
  | ok d S' => exact h
  | exc c S' => exact h
  | bad => exact h
def dCall (np : Nat) (F : Fn) (a : DenA) : Den := fun ε S => (a ε S).bind fun ds S => if ds.length = np then F ds S else .bad
abbrev CXo (X : Cx) : CXT := L2.CX X.prog X.w
section
variable {k np : Nat} {f C : Addr} {fd : FuncData} {ps : List Str} {F : Fn} {x m c : Str} {p pos apos : Pos} {e o : Expr} {es : List Expr} {a : DenA} {da : Den}
theorem pd_call (G : FnOk X.prog X.w X.K X.mg X.base (CXo X) k f fd ps (spD (gx X T) np F)) (hr : Room k X.A) (hg : Gl X x) (hm : X.mg x = some (.ref f)) (hk : PySem.W.keepIn X.K (.ref f) = true) (hb : Binds X.K fd ps []) (tk : Takes X W)
    (ha : PA X (e :: es) (tDA (gx X T) W a)) (hdb : (x == ("__debug__" : Str)) = false := by decide) (he : starEach (e :: es) X.env = (false, eval e X.env) :: starEach es X.env := by rfl) (hpl : (backTo pos (starEach es X.env)).any (·.1) = false := by rfl) :
    PE X (.Call (.Name x p) (e :: es) [] pos) (tD (gx X T) W (dCall np F a)) :=
  (pe_callS G hr hg hm hk hb (E := WE W) (fun σ => passAt tk σ) ha hdb he hpl).imp fun σ H Q ⟨ε, μ, S, sr, hs, h⟩ => ⟨ε, μ, S, sr, hs, (wR.bind (Rl := rlA (gx X T)) sr h).imp fun vs H1 ⟨ds, μ1, S1, g1, hs1, sr1, r1, h1⟩ => by
    split at h1
    · rename_i hn
      exact ⟨μ1, S1, ds, (RVs.length r1).trans hn, hs1, r1, h1.toF⟩
    · exact h1.elim⟩
def dMeth (c m : Str) (np : Nat) (F : Fn) (o : Den) (a : DenA) : Den := fun ε S => (o ε S).bind fun d S => match insAt S d with
  | some (_, c', fs) => if c' = c ∧ fs.lookup m = none then (a ε S).bind fun ds S => (if ds.length + 1 = np then F (d :: ds) S else .bad) else .bad
  | none => .bad
end
end
end DL

set_option Elab.async false
set_option linter.all false
set_option maxRecDepth 100000
set_option maxHeartbeats 1000000
namespace DL
open PySem L2
inductive Fl where
  | nx (ε : Env) | rt (d : D) | bk (ε : Env) | ct (ε : Env) | ex (c : Str) (ε : Env)
abbrev SDen := Env → Sto → R Fl
def wS (G : Gc) (W : WX) (r : R Fl) (μ : List Addr) (H : Hp) (N : Ends) : Prop :=
  match r with
  | .ok (.nx ε) S' => ∀ σ' μ' H', Gr μ H μ' H' → HS G μ' S' H' → SR G.K μ' H' σ' ε → N.nx σ' H'
  | .ok (.rt d) S' => ∀ v μ' H', Gr μ H μ' H' → HS G μ' S' H' → RV G.K μ' H' v d → N.rt v H'
  | .ok (.bk ε) S' => ∀ σ' μ' H', Gr μ H μ' H' → HS G μ' S' H' → SR G.K μ' H' σ' ε → N.bk σ' H'
  | .ok (.ct ε) S' => ∀ σ' μ' H', Gr μ H μ' H' → HS G μ' S' H' → SR G.K μ' H' σ' ε → N.ct σ' H'
  | .ok (.ex c ε) S' => ∀ C σ' μ' H', G.xA c = some C → Gr μ H μ' H' → HS G μ' S' H' → SR G.K μ' H' σ' ε → W (.ref C) none σ' H'
  | .exc _ _ => False
  | .bad => False
def tS (G : Gc) (W : WX) (den : SDen) : TS := fun N σ H => ∃ ε μ S, SR G.K μ H σ ε ∧ HS G μ S H ∧ wS G W (den ε S) μ H N
theorem _root_.L2.PS.imp {X : Cx} {st : Stmt} {t t' : TS} (h : PS X st t) (q : ∀ N σ H, t' N σ H → t N σ H) : PS X st t' := ⟨fun pins s σ H N I z => h.run pins s σ H N I (q _ _ _ z)⟩
theorem _root_.L2.PSs.imp {X : Cx} {st : List Stmt} {t t' : TS} (h : PSs X st t) (q : ∀ N σ H, t' N σ H → t N σ H) : PSs X st t' := ⟨fun pins s σ H N I z => h.run pins s σ H N I (q _ _ _ z)⟩
theorem _root_.L2.PG.imp {X : Cx} {e : Expr} {t t' : TG} (h : PG X e t) (q : ∀ v σ H Q, t' v σ H Q → t v σ H Q) : PG X e t' := ⟨fun pins s σ H v u Q I r z => h.run pins s σ H v u Q I r (q _ _ _ _ z)⟩
theorem _root_.L2.PGs.imp {X : Cx} {e : List Expr} {t t' : TGs} (h : PGs X e t) (q : ∀ v σ H Q, t' v σ H Q → t v σ H Q) : PGs X e t' := ⟨fun pins s σ H v u Q I r z => h.run pins s σ H v u Q I r (q _ _ _ _ z)⟩
theorem _root_.L2.PTs.imp {X : Cx} {e : List Expr} {t t' : TT} (h : PTs X e t) (q : ∀ σ H Q, t' σ H Q → t σ H Q) : PTs X e t' := ⟨fun pins s σ H Q I z => h.run pins s σ H Q I (q _ _ _ z)⟩
theorem _root_.L2.PI.imp {X : Cx} {tg e : Expr} {t t' : TI} (h : PI X tg e t) (q : ∀ σ H Q, t' σ H Q → t σ H Q) : PI X tg e t' := ⟨fun pins s σ H Q I z => h.run pins s σ H Q I (q _ _ _ z)⟩

def sE {α : Type} (r : R α) (ε : Env) (k : α → Sto → R Fl) : R Fl := match r with
  | .ok d S => k d S
  | .exc c S => .ok (.ex c ε) S
  | .bad => .bad
def sN (r : R Fl) (k : Env → Sto → R Fl) : R Fl := match r with
  | .ok (.nx ε) S => k ε S
  | r => r
section
variable {G : Gc} {W : WX} {α β : Type} {Rl : List Addr → Hp → β → α → Prop} {σ : L2.St} {ε : Env} {μ μ1 : List Addr} {H H1 : Hp} {S : Sto} {N : Ends}
theorem wS.up {r : R Fl} (g : Gr μ H μ1 H1) (h : wS G W r μ H N) : wS G W r μ1 H1 N := by
  cases r with
  | ok f S' =>
    cases f with
    | nx ε => exact fun σ' μ' H' g' => h σ' μ' H' (g.trans g')
    | rt d => exact fun σ' μ' H' g' => h σ' μ' H' (g.trans g')
    | bk ε => exact fun σ' μ' H' g' => h σ' μ' H' (g.trans g')
    | ct ε => exact fun σ' μ' H' g' => h σ' μ' H' (g.trans g')
    | ex c ε => exact fun C σ' μ' H' e g' => h C σ' μ' H' e (g.trans g')
  | exc c S' => exact h
  | bad => exact h
theorem wS.bind {r : R α} {k : α → Sto → R Fl} (sr : SR G.K μ H σ ε) (h : wS G W (sE r ε k) μ H N) :
    wR G W Rl r σ μ H fun v H1 => ∃ d μ1 S1, Gr μ H μ1 H1 ∧ HS G μ1 S1 H1 ∧ SR G.K μ1 H1 σ ε ∧ Rl μ1 H1 v d ∧ wS G W (k d S1) μ1 H1 N := by
  cases r with
  | ok d S' => exact fun v μ' H' g hs rl => ⟨d, μ', S', g, hs, sr.mono g, rl, wS.up g h⟩
  | exc c S' => exact fun C μ' H' e g hs => h C σ μ' H' e g hs (sr.mono g)
  | bad => exact h
end
section
variable {X : Cx} {T : Gt} {W : WX}
abbrev GDen := D → Env → Sto → Option Env
abbrev GDens := List D → Env → Sto → Option Env
def tG (G : Gc) (js : List Nat) (g : GDen) : TG := fun v σ H Q => ∃ ε μ S d ε', SR G.K μ H σ ε ∧ HS G μ S H ∧ RV G.K μ H v d ∧ g d ε S = some ε' ∧ ∀ σ', SR G.K μ H σ' ε' → σ'.length = σ.length → (∀ j, j ∉ js → σ'[j]? = σ[j]?) → Q σ' H
def tGs (G : Gc) (js : List Nat) (g : GDens) : TGs := fun v σ H Q => ∃ ε μ S d ε', SR G.K μ H σ ε ∧ HS G μ S H ∧ RVs G.K μ H v d ∧ g d ε S = some ε' ∧ ∀ σ', SR G.K μ H σ' ε' → σ'.length = σ.length → (∀ j, j ∉ js → σ'[j]? = σ[j]?) → Q σ' H
def gN (i : Nat) : GDen := fun d ε _ => some (ε.set i (some d))
def gsNil : GDens := fun ds ε _ => match ds with
  | [] => some ε
  | _ => none
def gsCons (g : GDen) (r : GDens) : GDens := fun ds ε S => match ds with
  | d :: ds => (g d ε S).bind fun ε => r ds ε S
  | [] => none
def gT (n : Nat) (g : GDens) : GDen := fun d ε S => match d with
  | .tup ds => if ds.length = n then g ds ε S else none
  | _ => none
theorem pgd_name (i : Nat) {x : Str} {pos : Pos} (hN : X.N.Nodup) (hi : X.N[i]? = some x := by rfl) (hx : Loc X.env.scope x := by first | exact Or.inl rfl | exact Or.inr rfl) (hf : X.fn x = true ∨ X.env.scope.names.lookup x = some .local := by first | exact .inl rfl | exact .inr rfl) : PG X (.Name x pos) (tG (gx X T) [i] (gN i)) :=
  (pg_name hN hi hx hf).imp fun v σ H Q ⟨ε, μ, S, d, ε', sr, hs, r, e, q⟩ => by
    cases e
    refine q _ (sr.set r i) (by simp) fun j hj => ?_
    rw [List.getElem?_set_ne]
    rintro rfl
    exact hj (by simp)
theorem pgd_nil : PGs X [] (tGs (gx X T) [] gsNil) := pgs_nil.imp fun v σ H Q ⟨ε, μ, S, d, ε', sr, hs, r, e, q⟩ => by
  cases r with
  | nil => cases e; exact ⟨rfl, q σ sr rfl fun _ _ => rfl⟩
  | cons _ _ => cases e
theorem pgd_cons {e : Expr} {es : List Expr} {js ks : List Nat} {g : GDen} {r : GDens} (h1 : PG X e (tG (gx X T) js g)) (h2 : PGs X es (tGs (gx X T) ks r)) (hs : (assignEach (e :: es) X.env).map (·.2) = assign e X.env :: (assignEach es X.env).map (·.2) := by rfl) :
    PGs X (e :: es) (tGs (gx X T) (js ++ ks) (gsCons g r)) := (pgs_cons h1 h2 hs).imp fun v σ H Q ⟨ε, μ, S, d, ε', sr, hs, r, e, q⟩ => by
  cases r with
  | nil => cases e
  | cons h t =>
    obtain ⟨ε1, e1, e2⟩ := Option.bind_eq_some_iff.mp e
    refine ⟨_, _, rfl, ε, μ, S, _, ε1, sr, hs, h, e1, fun σ1 sr1 l1 k1 => ?_⟩
    refine ⟨ε1, μ, S, _, ε', sr1, hs, t, e2, fun σ2 sr2 l2 k2 => q σ2 sr2 (l2.trans l1) fun j hj => ?_⟩
    rw [List.mem_append, not_or] at hj
    rw [k2 j hj.2, k1 j hj.1]
theorem pgd_tup {es : List Expr} {k n : Nat} {js : List Nat} {pos : Pos} {g : GDens} (hc : X.calm = true) (h : PGs X es (tGs (gx X T) js g)) (hn : (assignEach es X.env).length = n := by rfl) (hst : (assignEach es X.env).findIdx? (·.1) = none := by rfl) :
    PG X (.Tuple es k pos) (tG (gx X T) js (gT n g)) := (pg_tup hc h hn hst).imp fun v σ H Q ⟨ε, μ, S, d, ε', sr, hs, r, e, q⟩ => by
  unfold gT at e
  split at e
  · split at e
    · cases r with
      | tup t _ rs => exact ⟨_, _, rfl, t.sq, by rw [RVs.length rs]; assumption, ε, μ, S, _, ε', sr, hs, rs, e, q⟩
    · cases e
  · cases e
def sNil : SDen := fun ε S => .ok (.nx ε) S
def sSeq (a b : SDen) : SDen := fun ε S => sN (a ε S) b
theorem pssd_nil : PSs X [] (tS (gx X T) W sNil) := pss_nil.imp fun N σ H ⟨ε, μ, S, sr, hs, h⟩ => h σ μ H Gr.refl hs sr
theorem seq_to {a b : SDen} : ∀ N σ H, tS (gx X T) W (sSeq a b) N σ H → tSeq (tS (gx X T) W a) (tS (gx X T) W b) N σ H := fun N σ H ⟨ε, μ, S, sr, hs, h⟩ => by
  refine ⟨ε, μ, S, sr, hs, ?_⟩
  unfold sSeq at h
  cases e : a ε S with
  | ok f S' =>
    rw [e] at h
    cases f with
    | nx ε1 => exact fun σ' μ' H' g hs' sr' => ⟨ε1, μ', S', sr', hs', wS.up g h⟩
    | rt d => exact h
    | bk ε => exact h
    | ct ε => exact h
    | ex c ε => exact h
  | exc c S' => rw [e] at h; exact h
  | bad => rw [e] at h; exact h
theorem pssd_cons {st : Stmt} {rest : List Stmt} {a b : SDen} (h1 : PS X st (tS (gx X T) W a)) (h2 : PSs X rest (tS (gx X T) W b)) : PSs X (st :: rest) (tS (gx X T) W (sSeq a b)) := (pss_cons h1 h2).imp seq_to
theorem pssd_one {st : Stmt} {a : SDen} (h1 : PS X st (tS (gx X T) W a)) : PSs X [st] (tS (gx X T) W a) := pss_one h1
def sRet (a : Den) : SDen := fun ε S => sE (a ε S) ε fun d S => .ok (.rt d) S
theorem psd_ret {e : Expr} {a : Den} {pos : Pos} (ha : PE X e (tD (gx X T) W a)) : PS X (.Return (some e) pos) (tS (gx X T) W (sRet a)) :=
  (ps_ret ha).imp fun N σ H ⟨ε, μ, S, sr, hs, h⟩ => ⟨ε, μ, S, sr, hs, (wS.bind (Rl := rlV (gx X T)) sr h).imp fun v H1 ⟨d, μ1, S1, g1, hs1, sr1, r1, h1⟩ => h1 v μ1 H1 Gr.refl hs1 r1⟩
def sExpr (a : Den) : SDen := fun ε S => sE (a ε S) ε fun _ S => .ok (.nx ε) S
theorem psd_expr {e : Expr} {a : Den} {pos : Pos} (ha : PE X e (tD (gx X T) W a)) (hs : swapsWith e none pos.line X.env = pure false := by rfl) : PS X (.Expr e pos) (tS (gx X T) W (sExpr a)) :=
  (ps_expr ha hs).imp fun N σ H ⟨ε, μ, S, sr, hs, h⟩ => ⟨ε, μ, S, sr, hs, (wS.bind (Rl := rlV (gx X T)) sr h).imp fun v H1 ⟨d, μ1, S1, g1, hs1, sr1, r1, h1⟩ => h1 σ μ1 H1 Gr.refl hs1 sr1⟩
def sAsg (a : Den) (g : GDen) : SDen := fun ε S => sE (a ε S) ε fun d S => match g d ε S with
  | some ε' => .ok (.nx ε') S
  | none => .bad
theorem asg_to {te : TE} {a : Den} {js : List Nat} {g : GDen} {tg' : TG} (h0 : ∀ σ H Q, tD (gx X T) W a σ H Q → te σ H Q) (h1 : ∀ v σ H Q, tG (gx X T) js g v σ H Q → tg' v σ H Q) : ∀ N σ H, tS (gx X T) W (sAsg a g) N σ H → tAsg te tg' N σ H := fun N σ H ⟨ε, μ, S, sr, hs, h⟩ =>
  h0 _ _ _ ⟨ε, μ, S, sr, hs, (wS.bind (Rl := rlV (gx X T)) sr h).imp fun v H1 ⟨d, μ1, S1, g1, hs1, sr1, r1, h2⟩ => by
    split at h2
    · exact h1 _ _ _ _ ⟨ε, μ1, S1, d, _, sr1, hs1, r1, ‹_›, fun σ' sr' _ _ => h2 σ' μ1 H1 Gr.refl hs1 sr'⟩
    · exact h2.elim⟩
theorem psd_asg {tg e : Expr} {a : Den} {js : List Nat} {g : GDen} {pos : Pos} (ha : PE X e (tD (gx X T) W a)) (hg : PG X tg (tG (gx X T) js g)) (hs : swapsWithSole [tg] e pos.line X.env = pure false := by rfl) (hw : swappedStores [tg] e X.env = pure none := by rfl)
    (h1 : (assignEach [tg] X.env).map (·.2) = [assign tg X.env] := by rfl) : PS X (.Assign [tg] e pos) (tS (gx X T) W (sAsg a g)) :=
  (ps_asg ha hg hs hw h1).imp (asg_to (fun _ _ _ h => h) fun _ _ _ _ h => h)
def sIf (c : DenB) (a b : SDen) : SDen := fun ε S => sE (c ε S) ε fun k S => if k = true then a ε S else b ε S
theorem psd_if {c : Expr} {u v : List Stmt} {bc : DenB} {a b : SDen} {pos : Pos} (hc : PT X c (tDB (gx X T) W bc)) (ha : PSs X u (tS (gx X T) W a)) (hb : PSs X v (tS (gx X T) W b)) : PS X (.If c u v pos) (tS (gx X T) W (sIf bc a b)) :=
  (ps_if hc ha hb).imp fun N σ H ⟨ε, μ, S, sr, hs, h⟩ => ⟨ε, μ, S, sr, hs, (wS.bind (Rl := rlB) sr h).imp fun v H1 ⟨d, μ1, S1, g1, hs1, sr1, r1, h1⟩ => by
    have r1 : v = d := r1
    subst r1
    cases v with
    | true => exact ⟨ε, μ1, S1, sr1, hs1, h1⟩
    | false => exact ⟨ε, μ1, S1, sr1, hs1, h1⟩⟩
def sFldD (f : Str) (v o : Den) : SDen := fun ε S => sE (v ε S) ε fun d S => sE (o ε S) ε fun x S => match insAt S x with
  | some (n, c, fs) => if fs.length < 1000 then .ok (.nx ε) (S.set n (.ins c (putFD f d fs))) else .bad
  | none => .bad
abbrev Src := Sto → Option (List D)
def Sim (G : Gc) (J : It) (src : Src) (μ : List Addr) (H : Hp) : Prop := ∀ i μ' H' S' ds, Gr μ H μ' H' → HS G μ' S' H' → src S' = some ds →
  (ds[i]? = none → J.stop i H') ∧ ∀ d, ds[i]? = some d → J.go i H' ∧ ∀ x H'', J.yld i H' x H'' → Gr μ' H' μ' H'' ∧ HS G μ' S' H'' ∧ RV G.K μ' H'' x d
def rlI (G : Gc) : List Addr → Hp → It → Src → Prop := fun μ H J src => Sim G J src μ H
abbrev IDen := Env → Sto → R Src
abbrev tIt (G : Gc) (W : WX) (den : IDen) : TI := tR G W (rlI G) den
theorem Sim.up {G : Gc} {J : It} {src : Src} {μ μ1 : List Addr} {H H1 : Hp} (g : Gr μ H μ1 H1) (h : Sim G J src μ H) : Sim G J src μ1 H1 := fun i μ' H' S' ds g' => h i μ' H' S' ds (g.trans g')
theorem sim_seq {G : Gc} {μ : List Addr} {S : Sto} {H : Hp} {a : Addr} {d : D} (r : RV G.K μ H (.ref a) d) : Sim G (Itl G.K a) (fun S => litems S d) μ H := fun i μ' H' S' ds g hs e => by
  obtain ⟨a', xs, ev, hq, rs⟩ := litems_of hs (r.mono g) e
  cases ev
  refine ⟨fun hn => ⟨xs, hq, ?_⟩, fun d hd => ?_⟩
  · rw [RVs.length rs]
    exact List.getElem?_eq_none_iff.mp hn
  · obtain ⟨v, hv, rv⟩ := RVs.get rs hd
    refine ⟨⟨xs, v, hq, hv⟩, fun x H'' ⟨eh, hx⟩ => ?_⟩
    subst eh
    rw [hx xs hq] at hv
    cases hv
    exact ⟨Gr.refl, hs, rv⟩
theorem sim_tup {G : Gc} {μ : List Addr} {H : Hp} {a : Addr} {ds : List D} (r : RV G.K μ H (.ref a) (.tup ds)) : Sim G (Itt G.K a) (fun _ => some ds) μ H := fun i μ' H' S' es g hs e => by
  cases e
  have r' := r.mono g
  cases r' with
  | tup t _ rs =>
    refine ⟨fun hn => ⟨_, t.sq, ?_⟩, fun d hd => ?_⟩
    · rw [RVs.length rs]
      exact List.getElem?_eq_none_iff.mp hn
    · obtain ⟨v, hv, rv⟩ := RVs.get rs hd
      refine ⟨⟨_, v, t.sq, hv⟩, fun x H'' ⟨eh, hx⟩ => ?_⟩
      subst eh
      rw [hx _ t.sq] at hv
      cases hv
      exact ⟨Gr.refl, hs, rv⟩
def iSeq (a : Den) : IDen := fun ε S => (a ε S).bind fun d S => match litems S d with
  | some _ => .ok (fun S => litems S d) S
  | none => .bad
theorem pid_seq {tg e : Expr} {a : Den} (ha : PE X e (tD (gx X T) W a)) : PI X tg e (tIt (gx X T) W (iSeq a)) :=
  (pi_list ha).imp fun σ H Q ⟨ε, μ, S, sr, hs, h⟩ => ⟨ε, μ, S, sr, hs, (wR.bind (Rl := rlV (gx X T)) sr h).imp fun v H1 ⟨d, μ1, S1, g1, hs1, sr1, r1, h1⟩ => by
    split at h1
    · obtain ⟨a, xs, rfl, hq, rs⟩ := litems_of hs1 r1 ‹_›
      exact ⟨a, rfl, ⟨xs, hq⟩, wR.here hs1 h1 (sim_seq (G := gx X T) (S := S1) r1)⟩
    · exact h1.elim⟩
def iTupD (a : Den) : IDen := fun ε S => (a ε S).bind fun d S => match d with
  | .tup ds => .ok (fun _ => some ds) S
  | _ => .bad
theorem pid_tup {tg e : Expr} {a : Den} (ha : PE X e (tD (gx X T) W a)) : PI X tg e (tIt (gx X T) W (iTupD a)) :=
  (pi_tup ha).imp fun σ H Q ⟨ε, μ, S, sr, hs, h⟩ => ⟨ε, μ, S, sr, hs, (wR.bind (Rl := rlV (gx X T)) sr h).imp fun v H1 ⟨d, μ1, S1, g1, hs1, sr1, r1, h1⟩ => by
    split at h1
    · have r2 : RV X.K μ1 H1 v (.tup _) := r1
      cases r2 with
      | tup t bt rs => exact ⟨_, rfl, ⟨_, t.sq⟩, wR.here hs1 h1 (sim_tup (G := gx X T) (.tup t bt rs))⟩
    · exact h1.elim⟩
def signs (x : Str) : List D := x.cps.toList.map fun c => .str ⟨#[c]⟩
def iSigns (a : Den) : IDen := fun ε S => (a ε S).bind fun d S => match d with
  | .str x => .ok (fun _ => some (signs x)) S
  | _ => .bad
theorem pid_str {tg e : Expr} {a : Den} (ha : PE X e (tD (gx X T) W a)) : PI X tg e (tIt (gx X T) W (iSigns a)) :=
  (pi_str ha).imp fun σ H Q ⟨ε, μ, S, sr, hs, h⟩ => ⟨ε, μ, S, sr, hs, (wR.bind (Rl := rlV (gx X T)) sr h).imp fun v H1 ⟨d, μ1, S1, g1, hs1, sr1, r1, h1⟩ => by
    split at h1
    · have r2 : RV X.K μ1 H1 v (.str _) := r1
      rename_i x
      cases r2 with
      | str =>
        refine ⟨x, rfl, wR.here hs1 h1 ?_⟩
        intro i μ' H' S' ds g hs' e
        cases e
        have ln : (signs x).length = x.cps.size := by unfold signs; rw [List.length_map, Array.length_toList]
        refine ⟨fun hn => ?_, fun d hd => ?_⟩
        · have q := List.getElem?_eq_none_iff.mp hn
          rw [ln] at q
          exact q
        · have q := (List.getElem?_eq_some_iff.mp hd).1
          rw [ln] at q
          refine ⟨q, fun y H'' ⟨eh, c, hc, ey⟩ => ?_⟩
          subst eh ey
          unfold signs at hd
          rw [List.getElem?_map, Array.getElem?_toList, hc] at hd
          cases hd
          exact ⟨Gr.refl, hs', .str _⟩
    · exact h1.elim⟩
def nums (lo : Int) (n : Nat) : List D := (List.range n).map fun (k : Nat) => D.int (lo + (k : Int))
theorem nums_len (lo : Int) (n : Nat) : (nums lo n).length = n := by unfold nums; rw [List.length_map, List.length_range]
theorem sim_range {G : Gc} {μ : List Addr} {H : Hp} (lo : Int) (n : Nat) : Sim G (Itr lo n) (fun _ => some (nums lo n)) μ H := fun i μ' H' S' ds g hs e => by
  cases e
  refine ⟨fun hn => ?_, fun d hd => ?_⟩
  · have q := List.getElem?_eq_none_iff.mp hn
    rw [nums_len] at q
    exact q
  · have q := (List.getElem?_eq_some_iff.mp hd).1
    rw [nums_len] at q
    refine ⟨q, fun y H'' ⟨eh, ey⟩ => ?_⟩
    subst eh ey
    unfold nums at hd
    rw [List.getElem?_map, List.getElem?_range q] at hd
    cases hd
    exact ⟨Gr.refl, hs, .int _⟩
def okR (i : Int) : Prop := -(2 ^ 62) ≤ i ∧ i < 2 ^ 62
instance (i : Int) : Decidable (okR i) := by unfold okR; infer_instance
def iRange1 (a : Den) : IDen := fun ε S => (a ε S).bind fun d S => match d with
  | .int j => if okR j then .ok (fun _ => some (nums 0 j.toNat)) S else .bad
  | _ => .bad
theorem pid_range1 {tg e : Expr} {a : Den} {p pos : Pos} (hg : Gl X "range") (hm : X.mg "range" = none) (ha : PE X e (tD (gx X T) W a)) (hst : starEach [e] X.env = [(false, eval e X.env)] := by rfl) : PI X tg (.Call (.Name "range" p) [e] [] pos) (tIt (gx X T) W (iRange1 a)) :=
  (pi_range1 hg hm (pa_cons ha pa_nil hst) hst).imp fun σ H Q ⟨ε, μ, S, sr, hs, h⟩ => ⟨ε, μ, S, sr, hs, (wR.bind (Rl := rlV (gx X T)) sr h).imp fun v H1 ⟨d, μ1, S1, g1, hs1, sr1, r1, h1⟩ => by
    split at h1
    · split at h1
      · rename_i hj
        have r2 : RV X.K μ1 H1 v (.int _) := r1
        cases r2
        exact ⟨_, rfl, hj.1, hj.2, wR.here hs1 h1 (sim_range 0 _)⟩
      · exact h1.elim
    · exact h1.elim⟩
def iRange2 (a b : Den) : IDen := fun ε S => (a ε S).bind fun d S => (b ε S).bind fun e S => match d, e with
  | .int i, .int j => if okR i ∧ okR j then .ok (fun _ => some (nums i (j - i).toNat)) S else .bad
  | _, _ => .bad
theorem pid_range2 {tg e f : Expr} {a b : Den} {p pos : Pos} (hg : Gl X "range") (hm : X.mg "range" = none) (ha : PE X e (tD (gx X T) W a)) (hb : PE X f (tD (gx X T) W b)) (hst : starEach [e, f] X.env = [(false, eval e X.env), (false, eval f X.env)] := by rfl) (hst2 : starEach [f] X.env = [(false, eval f X.env)] := by rfl) :
    PI X tg (.Call (.Name "range" p) [e, f] [] pos) (tIt (gx X T) W (iRange2 a b)) :=
  (pi_range2 hg hm (pa_cons ha (pa_cons hb pa_nil hst2) (by rw [hst, hst2])) hst hst2).imp fun σ H Q ⟨ε, μ, S, sr, hs, h⟩ => ⟨ε, μ, S, sr, hs, (wR.bind (Rl := rlV (gx X T)) sr h).imp fun v H1 ⟨d, μ1, S1, g1, hs1, sr1, r1, h1⟩ =>
    ⟨ε, μ1, S1, sr1, hs1, (wR.bind (Rl := rlV (gx X T)) sr1 h1).imp fun w H2 ⟨e, μ2, S2, g2, hs2, sr2, r2, h2⟩ => by
    split at h2
    · split at h2
      · rename_i hj
        have r3 : RV X.K μ2 H2 v (.int _) := RV.mono g2 r1
        have r4 : RV X.K μ2 H2 w (.int _) := r2
        cases r3
        cases r4
        exact ⟨_, _, rfl, ⟨hj.1.1, hj.1.2, hj.2.1, hj.2.2⟩, wR.here hs2 h2 (sim_range _ _)⟩
      · exact h2.elim
    · exact h2.elim⟩⟩
def pairs : List D → List D → List D
  | a :: as, b :: bs => .tup [a, b] :: pairs as bs
  | _, _ => []
theorem pairs_get : ∀ {as bs : List D} {i : Nat} {a b : D}, as[i]? = some a → bs[i]? = some b → (pairs as bs)[i]? = some (.tup [a, b])
  | a :: as, b :: bs, 0, _, _, h1, h2 => by cases h1; cases h2; rfl
  | a :: as, b :: bs, i + 1, _, _, h1, h2 => pairs_get (as := as) (bs := bs) (by simpa using h1) (by simpa using h2)
theorem pairs_at : ∀ {as bs : List D} {i : Nat} {d : D}, (pairs as bs)[i]? = some d → ∃ a b, as[i]? = some a ∧ bs[i]? = some b ∧ d = .tup [a, b]
  | a :: as, b :: bs, 0, _, h => by cases h; exact ⟨a, b, rfl, rfl, rfl⟩
  | a :: as, b :: bs, i + 1, d, h => by
    obtain ⟨x, y, h1, h2, h3⟩ := pairs_at (as := as) (bs := bs) (i := i) (d := d) (by simpa [pairs] using h)
    exact ⟨x, y, by simpa using h1, by simpa using h2, h3⟩
  | [], _, _, _, h => by simp [pairs] at h
  | _ :: _, [], _, _, h => by simp [pairs] at h
theorem pairs_none {as bs : List D} {i : Nat} (h : (pairs as bs)[i]? = none) : as.length ≤ i ∨ bs.length ≤ i := by
  by_cases h1 : i < as.length
  · by_cases h2 : i < bs.length
    · rw [pairs_get (List.getElem?_eq_getElem h1) (List.getElem?_eq_getElem h2)] at h
      cases h
    · exact .inr (Nat.le_of_not_lt h2)
  · exact .inl (Nat.le_of_not_lt h1)
def unt : D → Bool
  | .tup ds => !txts ds
  | _ => false
def iZipD (a b : Den) : IDen := fun ε S => (a ε S).bind fun d S => (b ε S).bind fun e S => match d, e with
  | .tup xs, .tup ys => if (pairs xs ys).all unt = true then .ok (fun _ => some (pairs xs ys)) S else .bad
  | d, e => match litems S d, litems S e with
    | some _, some _ => .ok (fun S => match litems S d, litems S e with
      | some xs, some ys => if (pairs xs ys).all unt = true then some (pairs xs ys) else none
      | _, _ => none) S
    | _, _ => .bad
theorem unt_of {l : List D} (h : l.all unt = true) {i : Nat} {a b : D} (e : l[i]? = some (.tup [a, b])) : txts [a, b] = false := by
  have z := List.all_eq_true.mp h _ (List.mem_of_getElem? e)
  simpa [unt] using z
theorem pair_new {G : Gc} {μ : List Addr} {S : Sto} {H : Hp} {p : Addr} {x y : V} {d e : D} (hs : HS G μ S H) (hp : H p = none) (r1 : RV G.K μ H x d) (r2 : RV G.K μ H y e) (hu : txts [d, e] = false) :
    Gr μ H μ (upd H p (.tup [x, y])) ∧ HS G μ S (upd H p (.tup [x, y])) ∧ RV G.K μ (upd H p (.tup [x, y])) (.ref p) (.tup [d, e]) :=
  ⟨Gr.new hp, hs.beside hp, .tup ⟨hs.fresh hp, .inl upd_same⟩ (fun z => by rw [hu] at z; cases z) (.cons (r1.mono (Gr.new hp)) (.cons (r2.mono (Gr.new hp)) .nil))⟩
theorem pid_zip {e f : Expr} {a b : Den} {p pos tpos : Pos} {elts : List Expr} {kk : Nat} (hg : Gl X "zip") (hm : X.mg "zip" = none) (ha : PE X e (tD (gx X T) W a)) (hb : PE X f (tD (gx X T) W b)) (hst : starEach [e, f] X.env = (false, eval e X.env) :: starEach [f] X.env := by rfl)
    (hst2 : starEach [f] X.env = (false, eval f X.env) :: starEach [] X.env := by rfl) (hpl : (backTo pos (starEach [f] X.env)).any (·.1) = false := by rfl) : PI X (.Tuple elts kk tpos) (.Call (.Name "zip" p) [e, f] [] pos) (tIt (gx X T) W (iZipD a b)) :=
  (RZ.pi_zipA hg hm (pa_cons ha (pa_cons hb pa_nil hst2) hst) hst hpl).imp fun σ H Q ⟨ε, μ, S, sr, hs, h⟩ => ⟨ε, μ, S, sr, hs, (wR.bind (Rl := rlV (gx X T)) sr h).imp fun v H1 ⟨d, μ1, S1, g1, hs1, sr1, r1, h1⟩ =>
    ⟨ε, μ1, S1, sr1, hs1, (wR.bind (Rl := rlV (gx X T)) sr1 h1).imp fun w H2 ⟨e, μ2, S2, g2, hs2, sr2, r2, h2⟩ => by
    have r1 : RV X.K μ2 H2 v d := RV.mono g2 r1
    have r2 : RV X.K μ2 H2 w e := r2
    split at h2
    · cases r1 with
      | tup t1 _ rs1 =>
        cases r2 with
        | tup t2 _ rs2 =>
          split at h2
          · rename_i hall
            refine ⟨_, _, _, _, rfl, .inr ⟨t1.sq, t2.sq, wR.here hs2 h2 ?_⟩⟩
            intro i μ' H' S' ds g hs' e
            cases e
            have u1 := TupA.monoI g.i t1
            have u2 := TupA.monoI g.i t2
            have rs1 := RVs.mono g rs1
            have rs2 := RVs.mono g rs2
            refine ⟨fun hn => ⟨_, _, u1.sq, u2.sq, ?_⟩, fun d hd => ?_⟩
            · rw [RVs.length rs1, RVs.length rs2]
              exact pairs_none hn
            · obtain ⟨x, y, hx, hy, rfl⟩ := pairs_at hd
              obtain ⟨x', hx', rx⟩ := RVs.get rs1 hx
              obtain ⟨y', hy', ry⟩ := RVs.get rs2 hy
              refine ⟨⟨_, _, x', y', u1.sq, u2.sq, hx', hy'⟩, fun z H'' ⟨p, x2, y2, ez, hp, eh, k1, k2⟩ => ?_⟩
              rw [k1 _ u1.sq] at hx'
              rw [k2 _ u2.sq] at hy'
              cases hx'
              cases hy'
              subst ez eh
              exact pair_new hs' hp rx ry (unt_of hall hd)
          · exact h2.elim
    · split at h2
      · rename_i d0 e0 _ z1 z2 xs0 ys0 hl1 hl2
        obtain ⟨a1, xs1, rfl, hq1, _⟩ := litems_of hs2 r1 hl1
        obtain ⟨a2, ys1, rfl, hq2, _⟩ := litems_of hs2 r2 hl2
        refine ⟨_, _, _, _, rfl, .inl ⟨hq1, hq2, wR.here hs2 h2 ?_⟩⟩
        intro i μ' H' S' ds g hs' e
        simp only at e
        split at e
        · rename_i xs ys hm1 hm2
          split at e
          · rename_i hall
            cases e
            obtain ⟨_, us, e1, q1, rs1⟩ := litems_of hs' (r1.mono g) hm1
            obtain ⟨_, ws, e2, q2, rs2⟩ := litems_of hs' (r2.mono g) hm2
            cases e1
            cases e2
            refine ⟨fun hn => ⟨_, _, q1, q2, ?_⟩, fun d hd => ?_⟩
            · rw [RVs.length rs1, RVs.length rs2]
              exact pairs_none hn
            · obtain ⟨x, y, hx, hy, rfl⟩ := pairs_at hd
              obtain ⟨x', hx', rx⟩ := RVs.get rs1 hx
              obtain ⟨y', hy', ry⟩ := RVs.get rs2 hy
              refine ⟨⟨_, _, x', y', q1, q2, hx', hy'⟩, fun z H'' ⟨p, x2, y2, ez, hp, eh, k1, k2⟩ => ?_⟩
              rw [k1 _ q1] at hx'
              rw [k2 _ q2] at hy'
              cases hx'
              cases hy'
              subst ez eh
              exact pair_new hs' hp rx ry (unt_of hall hd)
          · cases e
        · cases e
      · exact h2.elim⟩⟩
def numbered (i : Nat) : List D → List D
  | [] => []
  | d :: ds => .tup [.int (i : Int), d] :: numbered (i + 1) ds
theorem numbered_at : ∀ {ds : List D} {k i : Nat}, (numbered k ds)[i]? = (ds[i]?).map fun d => .tup [.int ((k + i : Nat) : Int), d]
  | [], _, _ => by simp [numbered]
  | d :: ds, k, 0 => by simp [numbered]
  | d :: ds, k, i + 1 => by
    show (numbered (k + 1) ds)[i]? = _
    rw [numbered_at (ds := ds)]
    simp only [List.getElem?_cons_succ]
    rw [show k + 1 + i = k + (i + 1) by omega]
def forI (src : Src) (g : GDen) (b : SDen) : Nat → Nat → SDen
  | 0, _ => fun _ _ => .bad
  | m + 1, i => fun ε S => match src S with
    | none => .bad
    | some ds => match ds[i]? with
      | none => .ok (.nx ε) S
      | some d => match g d ε S with
        | none => .bad
        | some ε1 => match b ε1 S with
          | .ok (.nx ε') S' => forI src g b m (i + 1) ε' S'
          | .ok (.ct ε') S' => forI src g b m (i + 1) ε' S'
          | .ok (.bk ε') S' => .ok (.nx ε') S'
          | r => r
def sFor (it : IDen) (g : GDen) (b : SDen) : SDen := fun ε S => sE (it ε S) ε fun src S => match src S with
  | some ds => forI src g b (ds.length + 1) 0 ε S
  | none => .bad
theorem psd_for {tg iter : Expr} {body : List Stmt} {it : IDen} {js : List Nat} {g : GDen} {b : SDen} {pos : Pos} (po : PassesOwn (model X.prog X.w) X.A X.env X.xe) (hc : X.calm = true) (hi : PI X tg iter (tIt (gx X T) W it)) (hg : PG X tg (tG (gx X T) js g)) (hb : PSs X body (tS (gx X T) W b))
    (hf : ∀ x, foldedSetIterable iter X.env x = pure x := by intro _; rfl) : PS X (.For tg iter body [] pos) (tS (gx X T) W (sFor it g b)) :=
  (ps_for po hc hi hg hb hf).imp fun N σ H ⟨ε, μ, S, sr, hs, h⟩ => ⟨ε, μ, S, sr, hs, (wS.bind (Rl := rlI (gx X T)) sr h).imp fun J H1 ⟨src, μ1, S1, g1, hs1, sr1, sim, h1⟩ => by
    split at h1
    · rename_i ds0 hds0
      refine ⟨fun i m σ' H' => ∃ ε' μ' S', Gr μ1 H1 μ' H' ∧ SR X.K μ' H' σ' ε' ∧ HS (gx X T) μ' S' H' ∧ wS (gx X T) W (forI src g b m i ε' S') μ' H' N, ⟨_, ε, μ1, S1, Gr.refl, sr1, hs1, h1⟩, ?_⟩
      rintro i m σ2 H2 ⟨ε2, μ2, S2, g2, sr2, hs2, h2⟩
      cases m with
      | zero => exact h2.elim
      | succ m =>
        unfold forI at h2
        split at h2
        · exact h2.elim
        · rename_i ds hds
          obtain ⟨k1, k2⟩ := sim i μ2 H2 S2 ds g2 hs2 hds
          split at h2
          · rename_i hn
            exact .inl ⟨k1 hn, h2 σ2 μ2 H2 Gr.refl hs2 sr2⟩
          · rename_i d hd
            obtain ⟨k3, k4⟩ := k2 d hd
            refine .inr ⟨k3, fun σ' H' => ∃ ε' μ' S', Gr μ1 H1 μ' H' ∧ SR X.K μ' H' σ' ε' ∧ HS (gx X T) μ' S' H' ∧ wS (gx X T) W (forI src g b m (i + 1) ε' S') μ' H' N, fun σ' H' z => ⟨m, Nat.lt_succ_self m, z⟩, fun x H3 hy => ?_⟩
            obtain ⟨g3, hs3, rx⟩ := k4 x H3 hy
            split at h2
            · exact h2.elim
            · rename_i ε1 hε1
              refine ⟨ε2, μ2, S2, d, ε1, sr2.mono g3, hs3, rx, hε1, fun σ4 sr4 _ _ => ⟨ε1, μ2, S2, sr4, hs3, ?_⟩⟩
              have h2 := wS.up g3 h2
              cases e : b ε1 S2 with
              | ok f S' =>
                rw [e] at h2
                cases f with
                | nx ε3 => exact fun σ' μ' H' g hs' sr' => ⟨ε3, μ', S', (g2.trans g3).trans g, sr', hs', wS.up g h2⟩
                | ct ε3 => exact fun σ' μ' H' g hs' sr' => ⟨ε3, μ', S', (g2.trans g3).trans g, sr', hs', wS.up g h2⟩
                | bk ε3 => exact h2
                | rt d => exact h2
                | ex c ε => exact h2
              | exc c S' => rw [e] at h2; exact h2
              | bad => rw [e] at h2; exact h2
    · exact h1.elim⟩
end
end DL

set_option Elab.async false
set_option linter.all false
set_option maxRecDepth 100000
set_option maxHeartbeats 1000000
namespace DL
open PySem L2
def wipeE (ε : Env) : List Nat → Env
  | [] => ε
  | v :: vs => (wipeE ε vs).set v none
theorem SR.none {K : PySem.W.Frag} {μ : List Addr} {H : Hp} {σ : L2.St} {ε : Env} (h : SR K μ H σ ε) (i : Nat) : SR K μ H (σ.set i none) (ε.set i none) := by
  refine ⟨by simp [h.1], fun j d q => ?_⟩
  by_cases hj : i = j
  · subst hj
    by_cases hi : i < ε.length
    · rw [List.getElem?_set_self hi] at q
      cases q
    · rw [List.getElem?_eq_none (by simpa using hi)] at q
      cases q
  · rw [List.getElem?_set_ne hj] at q
    obtain ⟨v, e1, r⟩ := h.2 j d q
    exact ⟨v, by rw [List.getElem?_set_ne hj]; exact e1, r⟩
theorem SR.wipe {K : PySem.W.Frag} {μ : List Addr} {H : Hp} {σ : L2.St} {ε : Env} (h : SR K μ H σ ε) : ∀ vs : List Nat, SR K μ H (L2.wipe σ vs) (wipeE ε vs)
  | [] => h
  | v :: vs => (SR.wipe h vs).none v
theorem wipe_in {σ : L2.St} {i : Nat} (hi : i < σ.length) : ∀ {vs : List Nat}, i ∈ vs → (L2.wipe σ vs)[i]? = some none
  | v :: vs, h => by
    unfold L2.wipe
    by_cases e : v = i
    · subst e
      exact List.getElem?_set_self (by rw [wipe_length]; exact hi)
    · rw [List.getElem?_set_ne e]
      exact wipe_in hi ((List.mem_cons.mp h).resolve_left fun q => e q.symm)
theorem wipe_same {σ σ2 : L2.St} {vs js : List Nat} (hj : js.all vs.contains = true) (hl : σ2.length = (L2.wipe σ vs).length) (h : ∀ j, j ∉ js → σ2[j]? = (L2.wipe σ vs)[j]?) : L2.wipe σ2 vs = L2.wipe σ vs := by
  rw [wipe_length] at hl
  apply List.ext_getElem?
  intro i
  by_cases hi : i ∈ vs
  · by_cases hb : i < σ.length
    · rw [wipe_in (by rw [hl]; exact hb) hi, wipe_in hb hi]
    · rw [List.getElem?_eq_none (by rw [wipe_length, hl]; exact Nat.le_of_not_lt hb), List.getElem?_eq_none (by rw [wipe_length]; exact Nat.le_of_not_lt hb)]
  · rw [wipe_out hi, h i fun m => hi (by simpa using (List.all_eq_true.mp hj) i m)]
section
variable {X : Cx} {T : Gt} {W : WX}
abbrev W0 : WX := fun _ _ _ _ => False
def noX {α : Type} : R α → R α
  | .ok a S => .ok a S
  | _ => .bad
def bYes : DenB := fun _ S => .ok true S
theorem ptsd_nil : PTs X [] (tDB (gx X T) W bYes) := pts_nil.imp fun σ H Q ⟨ε, μ, S, sr, hs, h⟩ => wR.here hs h rfl
theorem ptsd_one {c : Expr} {b : DenB} (h : PT X c (tDB (gx X T) W b)) : PTs X [c] (tDB (gx X T) W b) := pts_one h
def lcI (src : Src) (g : GDen) (c : DenB) (e : Den) (vs : List Nat) (ε : Env) : Nat → Nat → List D → Sto → R (List D)
  | 0, _, _, _ => .bad
  | m + 1, i, acc, S => match src S with
    | none => .bad
    | some ds => match ds[i]? with
      | none => .ok acc S
      | some d => match g d (wipeE ε vs) S with
        | none => .bad
        | some ε1 => (noX (c ε1 S)).bind fun k S => if k = true then (noX (e ε1 S)).bind fun x S => (if acc.length < big then lcI src g c e vs ε m (i + 1) (acc ++ [x]) S else .bad) else lcI src g c e vs ε m (i + 1) acc S
def lcEnd (ds : List D) (S : Sto) : R D := .ok (.ref S.length) (S ++ [.lst ds])
def dLc (it : IDen) (g : GDen) (c : DenB) (e : Den) (vs : List Nat) : Den := fun ε S => (it ε S).bind fun src S => match src S with
  | some ds => (lcI src g c e vs ε (ds.length + 1) 0 [] S).bind lcEnd
  | none => .bad
theorem lc_to {it : IDen} {js vs : List Nat} {g : GDen} {c : DenB} {e : Den} (hj : js.all vs.contains = true) :
    ∀ σ H Q, tD (gx X T) W (dLc it g c e vs) σ H Q → tLc (tIt (gx X T) W it) (tG (gx X T) js g) (tDB (gx X T) W0 c) (tD (gx X T) W0 e) vs σ H Q := fun σ H Q ⟨ε, μ, S, sr, hs, h⟩ =>
  ⟨ε, μ, S, sr, hs, (wR.bind (Rl := rlI (gx X T)) sr h).imp fun J H1 ⟨src, μ1, S1, g1, hs1, sr1, sim, h1⟩ Dl hDl => by
    split at h1
    · rename_i ds0 hds0
      refine ⟨fun i m H2 => ∃ μ2 S2 accV acc, Gr μ1 H1 μ2 H2 ∧ HS (gx X T) μ2 S2 H2 ∧ H2 Dl = some (.lst accV) ∧ Dl ∉ μ2 ∧ RVs X.K μ2 H2 accV acc ∧ wR (gx X T) W (rlV (gx X T)) ((lcI src g c e vs ε m i acc S2).bind lcEnd) σ μ1 H1 Q,
        ⟨_, μ1, S1, [], [], Gr.new hDl, hs1.beside hDl, upd_same, hs1.fresh hDl, .nil, h1⟩, ?_⟩
      rintro i m H2 ⟨μ2, S2, accV, acc, g2, hs2, hd2, nd2, racc, h2⟩
      cases m with
      | zero => exact h2.elim
      | succ m =>
        unfold lcI at h2
        split at h2
        · exact h2.elim
        · rename_i ds hds
          obtain ⟨k1, k2⟩ := sim i μ2 H2 S2 ds g2 hs2 hds
          split at h2
          · rename_i hn
            exact .inl ⟨k1 hn, h2 _ _ _ (g2.join hDl) (hs2.join hd2 nd2 racc) (.ref hs2.last)⟩
          · rename_i d hd
            obtain ⟨k3, k4⟩ := k2 d hd
            refine .inr ⟨k3, fun H' => ∃ μ' S' accV' acc', Gr μ1 H1 μ' H' ∧ HS (gx X T) μ' S' H' ∧ H' Dl = some (.lst accV') ∧ Dl ∉ μ' ∧ RVs X.K μ' H' accV' acc' ∧ wR (gx X T) W (rlV (gx X T)) ((lcI src g c e vs ε m (i + 1) acc' S').bind lcEnd) σ μ1 H1 Q,
              fun H' z => ⟨m, Nat.lt_succ_self m, z⟩, fun x H3 hy => ?_⟩
            obtain ⟨g3, hs3, rx⟩ := k4 x H3 hy
            have hd3 := g3.keep _ _ nd2 hd2
            split at h2
            · exact h2.elim
            · rename_i ε1 hε1
              refine ⟨wipeE ε vs, μ2, S2, d, ε1, (sr1.mono (g2.trans g3)).wipe vs, hs3, rx, hε1, fun σ4 sr4 l4 q4 => ⟨wipe_same hj l4 q4, ?_⟩⟩
              refine ⟨ε1, μ2, S2, sr4, hs3, ?_⟩
              cases ec : c ε1 S2 with
              | exc _ _ => rw [ec] at h2; exact h2.elim
              | bad => rw [ec] at h2; exact h2.elim
              | ok k S4 =>
                rw [ec] at h2
                intro b μ4 H4 g4 hs4 eb
                have eb : b = k := eb
                subst eb
                have hd4 := g4.keep _ _ nd2 hd3
                have nd4 := g4.notin hd3 nd2
                have racc4 := (racc.mono g3).mono g4
                cases b with
                | false => exact ⟨μ4, S4, accV, acc, (g2.trans g3).trans g4, hs4, hd4, nd4, racc4, h2⟩
                | true =>
                  refine ⟨ε1, μ4, S4, sr4.mono g4, hs4, ?_⟩
                  cases ee : e ε1 S4 with
                  | exc _ _ =>
                    simp only [noX, R.bind_ok, if_true, ee, R.bind_bad] at h2
                    exact h2.elim
                  | bad =>
                    simp only [noX, R.bind_ok, if_true, ee, R.bind_bad] at h2
                    exact h2.elim
                  | ok y S5 =>
                    simp only [noX, R.bind_ok, if_true, ee] at h2
                    intro v μ5 H5 g5 hs5 rv
                    have hd5 := g5.keep _ _ nd4 hd4
                    have nd5 := g5.notin hd4 nd4
                    split at h2
                    · have racc5 := racc4.mono g5
                      refine ⟨accV, hd5, by rw [RVs.length racc5]; exact big_lt (Nat.le_of_lt ‹_›), μ5, S5, accV ++ [v], acc ++ [y], (((g2.trans g3).trans g4).trans g5).aside hDl, hs5.aside hd5 nd5, upd_same, nd5, ?_, h2⟩
                      exact (racc5.append (.cons rv .nil)).monoI (Gi.aside hd5)
                    · exact h2.elim
    · exact h1.elim⟩
theorem pd_lc {elt tg iter : Expr} {ifs : List Expr} {scope : Scope} {own : List (Str × Nat)} {pos : Pos} {it : IDen} {js : List Nat} {g : GDen} {c : DenB} {e : Den} (hc : X.calm = true) (hN : X.N.Nodup) (hi : PI X tg iter (tIt (gx X T) W it)) (ok : BlkOk X.N X.env.scope scope own)
    (hg : ∀ (s : Shared) (H : Hp) (C : Addr) (cl : List (Str × Addr)) (fp : List Addr), PG (X.blk s H scope (compEnvC scope cl C X.env) fp) tg (tG (gx X T) js g)) (ht : ∀ (s : Shared) (H : Hp) (C : Addr) (cl : List (Str × Addr)) (fp : List Addr), PTs (X.blk s H scope (compEnvC scope cl C X.env) fp) ifs (tDB (gx X T) W0 c))
    (he : ∀ (s : Shared) (H : Hp) (C : Addr) (cl : List (Str × Addr)) (fp : List Addr), PE (X.blk s H scope (compEnvC scope cl C X.env) fp) elt (tD (gx X T) W0 e)) (hj : js.all (own.map (·.2)).contains = true := by rfl) (hs : ∀ x, foldedSetIterable iter X.env x = pure x := by intro _; rfl) :
    PE X (.ListComp elt [⟨tg, iter, ifs, 0⟩] scope pos) (tD (gx X T) W (dLc it g c e (own.map (·.2)))) :=
  (pe_lc hc hN hi ok hg ht he hs).imp (lc_to hj)
theorem psd_setLc (i : Nat) {y : Str} {py : Pos} {elt tg iter : Expr} {ifs : List Expr} {scope : Scope} {own : List (Str × Nat)} {pos spos : Pos} {it : IDen} {js : List Nat} {g : GDen} {c : DenB} {e : Den} (hc : X.calm = true) (hN : X.N.Nodup) (hi : PI X tg iter (tIt (gx X T) W it)) (ok : BlkOk X.N X.env.scope scope own)
    (hg : ∀ (s : Shared) (H : Hp) (C : Addr) (cl : List (Str × Addr)) (fp : List Addr), PG (X.blk s H scope (compEnvC scope cl C X.env) fp) tg (tG (gx X T) js g)) (ht : ∀ (s : Shared) (H : Hp) (C : Addr) (cl : List (Str × Addr)) (fp : List Addr), PTs (X.blk s H scope (compEnvC scope cl C X.env) fp) ifs (tDB (gx X T) W0 c))
    (he : ∀ (s : Shared) (H : Hp) (C : Addr) (cl : List (Str × Addr)) (fp : List Addr), PE (X.blk s H scope (compEnvC scope cl C X.env) fp) elt (tD (gx X T) W0 e))
    (hsw : swapsWith (.ListComp elt [⟨tg, iter, ifs, 0⟩] scope pos) (some (.Name y py)) spos.line X.env = pure true)
    (hy : X.N[i]? = some y := by rfl) (hyl : X.env.scope.names.lookup y = some .local := by rfl) (hj : js.all (own.map (·.2)).contains = true := by rfl) (hs : ∀ x, foldedSetIterable iter X.env x = pure x := by intro _; rfl) :
    PS X (.Assign [.Name y py] (.ListComp elt [⟨tg, iter, ifs, 0⟩] scope pos) spos) (tS (gx X T) W (sAsg (dLc it g c e (own.map (·.2))) (gN i))) :=
  (ps_setLc hc hN hy hyl hsw hi ok hg ht he hs).imp (asg_to (js := [i]) (lc_to hj) fun v σ H Q ⟨ε, μ, S, d, ε', sr, hs', r, e, q⟩ => by
    cases e
    refine q _ (sr.set r i) (by simp) fun j hj => ?_
    rw [List.getElem?_set_ne]
    rintro rfl
    exact hj (by simp))

def lstAt (S : Sto) : D → Option (Nat × List D)
  | .ref n => match S[n]? with
    | some (.lst ds) => some (n, ds)
    | _ => none
  | _ => none
theorem lstAt_of {G : Gc} {μ : List Addr} {S : Sto} {H : Hp} (hs : HS G μ S H) {v : V} {d : D} {n : Nat} {ds : List D} (r : RV G.K μ H v d) (e : lstAt S d = some (n, ds)) : ∃ a xs, v = .ref a ∧ μ[n]? = some a ∧ H a = some (.lst xs) ∧ RVs G.K μ H xs ds := by
  cases r with
  | ref q =>
    simp only [lstAt] at e
    split at e
    · cases e
      exact hs.lst (RV.ref q) ‹_›
    · cases e
  | _ => cases e
def dAppend (o a : Den) : Den := fun ε S => (o ε S).bind fun l S => match lstAt S l with
  | some _ => (a ε S).bind fun d S => (match lstAt S l with
    | some (n, ds) => if ds.length < big then .ok .non (S.set n (.lst (ds ++ [d]))) else .bad
    | none => .bad)
  | none => .bad
theorem pd_append {o e : Expr} {apos cpos : Pos} {a b : Den} (ha : PE X o (tD (gx X T) W a)) (hb : PE X e (tD (gx X T) W b)) (hst : starEach [e] X.env = (false, eval e X.env) :: starEach [] X.env := by rfl)
    (hbase : attributeBase o "append" X.env (eval o X.env) = eval o X.env := by rfl)
    (hfew : ((backTo cpos (starEach [e] X.env)).all (fun x => !x.1) && (backToKw cpos (keywordEach [] X.env)).all (fun x => x.1.isSome)
      && decide (([e] : List Expr).length + ([] : List Keyword).length + (if ([] : List Keyword).isEmpty then 0 else 1) < 30)) = true := by rfl)
    (hline : (apos.endLine == cpos.line) = true := by rfl) (hplain : (backTo cpos (starEach [] X.env)).any (·.1) = false := by rfl) :
    PE X (.Call (.Attribute o "append" apos) [e] [] cpos) (tD (gx X T) W (dAppend a b)) :=
  (pe_bm PySem.F.plainAttrs_list PySem.F.slot_list_append PySem.F.type_list_append mt_append ha (pa_cons hb pa_nil hst) hbase hfew hline hst hplain).imp fun σ H Q ⟨ε, μ, S, sr, hs, h⟩ => ⟨ε, μ, S, sr, hs, (wR.bind (Rl := rlV (gx X T)) sr h).imp fun v H1 ⟨d, μ1, S1, g1, hs1, sr1, r1, h1⟩ => by
    split at h1
    · rename_i z hz
      obtain ⟨n0, ds0⟩ := z
      obtain ⟨p, xs, rfl, en, hp, rs⟩ := lstAt_of hs1 r1 hz
      refine ⟨.inl ⟨rfl, xs, .inl (.inl hp)⟩, ε, μ1, S1, sr1, hs1, (wR.bind (Rl := rlV (gx X T)) sr1 h1).imp fun w H2 ⟨e, μ2, S2, g2, hs2, sr2, r2, h2⟩ => ?_⟩
      split at h2
      · rename_i n ds hz2
        split at h2
        · obtain ⟨p2, xs2, e2, en2, hp2, rs2⟩ := lstAt_of hs2 (RV.mono g2 r1) hz2
          cases e2
          have g3 : Gr μ2 H2 μ2 (upd H2 p (.lst (xs2 ++ [w]))) := Gr.write (List.mem_of_getElem? en2)
          exact ⟨p, xs2, w, rfl, rfl, hp2, by rw [RVs.length rs2]; exact big_lt (Nat.le_of_lt ‹_›), h2 _ _ _ g3 (hs2.put en2 ⟨_, upd_same, (RVs.append rs2 (.cons r2 .nil)).mono g3⟩) .non⟩
        · exact h2.elim
      · exact h2.elim
    · exact h1.elim⟩
def dExtend (o a : Den) : Den := fun ε S => (o ε S).bind fun l S => match lstAt S l with
  | some _ => (a ε S).bind fun d S => (match lstAt S l, lstAt S d with
    | some (n, ds), some (_, es) => if ds.length + es.length ≤ big then .ok .non (S.set n (.lst (ds ++ es))) else .bad
    | _, _ => .bad)
  | none => .bad
theorem pd_extend {o e : Expr} {apos cpos : Pos} {a b : Den} (ha : PE X o (tD (gx X T) W a)) (hb : PE X e (tD (gx X T) W b)) (hst : starEach [e] X.env = (false, eval e X.env) :: starEach [] X.env := by rfl)
    (hbase : attributeBase o "extend" X.env (eval o X.env) = eval o X.env := by rfl)
    (hfew : ((backTo cpos (starEach [e] X.env)).all (fun x => !x.1) && (backToKw cpos (keywordEach [] X.env)).all (fun x => x.1.isSome)
      && decide (([e] : List Expr).length + ([] : List Keyword).length + (if ([] : List Keyword).isEmpty then 0 else 1) < 30)) = true := by rfl)
    (hline : (apos.endLine == cpos.line) = true := by rfl) (hplain : (backTo cpos (starEach [] X.env)).any (·.1) = false := by rfl) :
    PE X (.Call (.Attribute o "extend" apos) [e] [] cpos) (tD (gx X T) W (dExtend a b)) :=
  (pe_bm PySem.F.plainAttrs_list PySem.F.slot_list_extend PySem.F.type_list_extend mt_extend ha (pa_cons hb pa_nil hst) hbase hfew hline hst hplain).imp fun σ H Q ⟨ε, μ, S, sr, hs, h⟩ => ⟨ε, μ, S, sr, hs, (wR.bind (Rl := rlV (gx X T)) sr h).imp fun v H1 ⟨d, μ1, S1, g1, hs1, sr1, r1, h1⟩ => by
    split at h1
    · rename_i z hz
      obtain ⟨n0, ds0⟩ := z
      obtain ⟨p, xs, rfl, en, hp, rs⟩ := lstAt_of hs1 r1 hz
      refine ⟨.inl ⟨rfl, xs, .inl (.inl hp)⟩, ε, μ1, S1, sr1, hs1, (wR.bind (Rl := rlV (gx X T)) sr1 h1).imp fun w H2 ⟨e, μ2, S2, g2, hs2, sr2, r2, h2⟩ => ?_⟩
      split at h2
      · rename_i n ds m es hz2 hz3
        split at h2
        · obtain ⟨p2, xs2, e2, en2, hp2, rs2⟩ := lstAt_of hs2 (RV.mono g2 r1) hz2
          cases e2
          obtain ⟨p3, xs3, rfl, en3, hp3, rs3⟩ := lstAt_of hs2 r2 hz3
          have g3 : Gr μ2 H2 μ2 (upd H2 p (.lst (xs2 ++ xs3))) := Gr.write (List.mem_of_getElem? en2)
          exact ⟨p, p3, xs2, xs3, rfl, rfl, hp2, hp3, by rw [RVs.length rs2, RVs.length rs3]; exact big_ok ‹_›, h2 _ _ _ g3 (hs2.put en2 ⟨_, upd_same, (RVs.append rs2 rs3).mono g3⟩) .non⟩
        · exact h2.elim
      · exact h2.elim
    · exact h1.elim⟩
end

def runFn (np nN : Nat) (b : SDen) : Fn := fun ds S => if ds.length = np then (match b (ds.map some ++ List.replicate (nN - np) none) S with
  | .ok (.nx _) S' => .ok .non S'
  | .ok (.rt d) S' => .ok d S'
  | .ok (.ex c _) S' => .exc c S'
  | _ => .bad) else .bad
theorem sr_start {K : PySem.W.Frag} {μ : List Addr} {H : Hp} : ∀ {vs : List V} {ds : List D}, RVs K μ H vs ds → ∀ n : Nat, SR K μ H (vs.map some ++ List.replicate n none) (ds.map some ++ List.replicate n none)
  | vs, ds, r, n => by
    refine ⟨by simp [r.length], fun i d e => ?_⟩
    by_cases hi : i < ds.length
    · rw [List.getElem?_append_left (by simpa using hi), List.getElem?_map] at e
      cases q : ds[i]? with
      | none => rw [q] at e; cases e
      | some d' =>
        rw [q] at e
        cases e
        obtain ⟨v, h1, h2⟩ := r.get q
        exact ⟨v, by rw [List.getElem?_append_left (by rw [List.length_map, r.length]; exact hi), List.getElem?_map, h1]; rfl, h2⟩
    · rw [List.getElem?_append_right (by simpa using Nat.le_of_not_lt hi)] at e
      by_cases hj : i - (ds.map some).length < n
      · rw [List.getElem?_replicate, if_pos hj] at e
        cases e
      · rw [List.getElem?_replicate, if_neg hj] at e
        cases e
theorem fn_ok {P : Program} {w : World} {K : PySem.W.Frag} {mg : Str → Option Value} {base : Heap} {T : Gt} {x qual : Str} {st : Stmt} {f : Addr} {fd : FuncData} {N ps : List Str} {k np : Nat} {b : SDen} (F : Fun K x qual st f fd) (Sc : FnScope N ps (defScope st)) (hl : ps.length = np)
    (body : ∀ (cdv : Value) (A : Around) (outer : List PySem.Env) (s : Shared) (H : Hp) (E : XK), Room k (A.deeper (PyProof.Rows.envOfC qual (defScope st) s.heap.objs.size f cdv)) →
      PSs (cxOf (L2.CX P w) P w K mg base N qual (defScope st) f cdv A outer s H E) (defBody st) (tS ⟨K, T.cA, T.xA⟩ (fun cls d _ H => E cls d H) b)) :
    FnOk P w K mg base (L2.CX P w) (k + 1) f fd ps (spD ⟨K, T.cA, T.xA⟩ np (runFn np N.length b)) := by
  refine F.okX Sc (fun vs H Q E ⟨_, _, _, h, _⟩ => h.trans hl.symm) fun cdv A outer s H vs Q E hr ⟨μ, S, ds, hv, hs, rs, h⟩ => ?_
  refine ⟨_, body cdv A outer s H E hr, ds.map some ++ List.replicate (N.length - np) none, μ, S, ?_, hs, ?_⟩
  · show SR K μ H (vs.map some ++ List.replicate (N.length - vs.length) none) _
    rw [hv]
    exact sr_start rs _
  · unfold runFn at h
    rw [if_pos (by rw [← RVs.length rs]; exact hv)] at h
    cases e : b (ds.map some ++ List.replicate (N.length - np) none) S with
    | ok fl S' =>
      rw [e] at h
      cases fl with
      | nx ε => exact fun σ' μ' H' g hs' _ => h _ _ _ g hs' .non
      | rt d => exact fun v μ' H' g hs' r => h _ _ _ g hs' r
      | bk ε => exact h.elim
      | ct ε => exact h.elim
      | ex c ε => exact fun C σ' μ' H' hx g hs' _ => h C μ' H' hx g hs'
    | exc c S' => rw [e] at h; exact h.elim
    | bad => rw [e] at h; exact h.elim
theorem fn_zero {P : Program} {w : World} {K : PySem.W.Frag} {mg : Str → Option Value} {base : Heap} {G : Gc} {f : Addr} {fd : FuncData} {ps : List Str} {np : Nat} : FnOk P w K mg base (L2.CX P w) 0 f fd ps (spD G np fun _ _ => .bad) :=
  ⟨fun vs H Q E ⟨_, _, _, _, _, _, h⟩ => h.elim, fun A outer s H args us vs Q E _ _ _ _ ⟨_, _, _, _, _, _, h⟩ => h.elim⟩
end DL

set_option Elab.async false
set_option linter.all false
set_option maxRecDepth 100000
set_option maxHeartbeats 1000000
namespace DZ
open PySem
open Sem (wp)
section
end
end DZ

set_option Elab.async false
set_option linter.all false
set_option maxRecDepth 100000
set_option maxHeartbeats 1000000
namespace L2
open PySem PySem.Spec PyProof.Rows
section
end
end L2

set_option Elab.async false
set_option linter.all false
set_option maxRecDepth 100000
set_option maxHeartbeats 1000000
namespace L2
open PySem PySem.Spec PyProof.Rows
theorem PE.or {X : Cx} {e : Expr} {t t' : TE} (h : PE X e t) (h' : PE X e t') : PE X e (fun σ H Q => t σ H Q ∨ t' σ H Q) := ⟨fun pins s σ H Q I q => q.elim (h.run pins s σ H Q I) (h'.run pins s σ H Q I)⟩
theorem PT.or {X : Cx} {e : Expr} {t t' : TT} (h : PT X e t) (h' : PT X e t') : PT X e (fun σ H Q => t σ H Q ∨ t' σ H Q) := ⟨fun pins s σ H Q I q => q.elim (h.run pins s σ H Q I) (h'.run pins s σ H Q I)⟩
theorem PI.or {X : Cx} {tg e : Expr} {t t' : TI} (h : PI X tg e t) (h' : PI X tg e t') : PI X tg e (fun σ H Q => t σ H Q ∨ t' σ H Q) := ⟨fun pins s σ H Q I q => q.elim (h.run pins s σ H Q I) (h'.run pins s σ H Q I)⟩
end L2

namespace DL
open PySem L2
section
end
section
variable {X : Cx} {T : Gt} {W : WX}
def mergeD (kvs more : List (Key × D)) : List (Key × D) := more.foldl (fun acc kv => putD acc kv.1 kv.2) kvs
theorem RKs.merge {K : PySem.W.Frag} {μ : List Addr} {H : Hp} {more : List (Key × V)} {more' : List (Key × D)} (r : RKs K μ H more more') : ∀ {kvs : List (Key × V)} {kvs' : List (Key × D)}, RKs K μ H kvs kvs' → RKs K μ H (mergeK kvs more) (mergeD kvs' more') := by
  induction r with
  | nil => exact fun h => h
  | @cons k v vs d ds h t ih => exact fun q => ih (q.put k h)
def dUpd (o a : Den) : Den := fun ε S => (o ε S).bind fun l S => match dctAt S l with
  | some _ => (a ε S).bind fun d S => (match dctAt S l, dctAt S d with
    | some (n, kvs), some (m, more) => if n ≠ m ∧ kvs.length + more.length ≤ big then .ok .non (S.set n (.dct (mergeD kvs more))) else .bad
    | _, _ => .bad)
  | none => .bad
def pairD : D → Option (Key × D)
  | .tup [k, v] => (keyD k).map fun k => (k, v)
  | _ => none
theorem pairs_to {K : PySem.W.Frag} {μ : List Addr} {H : Hp} : ∀ {vs : List V} {ds : List D} {kvs : List (Key × D)}, RVs K μ H vs ds → fall pairD ds = some kvs →
    ∃ (ps : List Addr) (ws : List (Key × V)), vs = ps.map V.ref ∧ Paired (fun p kv => SqT K H p [kV kv.1, kv.2]) ps ws ∧ RKs K μ H ws kvs
  | _, _, _, .nil, e => by cases e; exact ⟨[], [], rfl, .nil, .nil⟩
  | _, d :: ds, _, .cons h t, e => by
    unfold fall at e
    split at e
    · rename_i b s hb hs
      cases e
      obtain ⟨ps, ws, rfl, q1, q2⟩ := pairs_to t hs
      unfold pairD at hb
      split at hb
      · rename_i k v
        obtain ⟨j, hj, rfl⟩ := Option.map_eq_some_iff.mp hb
        cases h with
        | tup tt _ rs =>
          obtain ⟨x, y, rfl, rx, ry⟩ := two_of rs
          have ek := key_of rx hj
          subst ek
          exact ⟨_ :: ps, (j, y) :: ws, rfl, .cons tt.sq q1, .cons ry q2⟩
      · cases hb
    · cases e
def fDict : Fn := fun ds S => match ds with
  | [d] => (match dctAt S d with
    | some (_, kvs) => .ok (.ref S.length) (S ++ [.dct kvs])
    | none => (match litems S d with
      | some xs => (match fall pairD xs with
        | some kvs => .ok (.ref S.length) (S ++ [.dct (mergeD [] kvs)])
        | none => .bad)
      | none => .bad))
  | _ => .bad
theorem cd_dict (hc : X.calm = true) : CallD X T (.type "dict") fDict := by
  refine ⟨_, call_dictD.or (call_dictP hc), fun W σ μ S H vs ds Q hs r h => ?_⟩
  unfold fDict at h
  split at h
  · obtain ⟨v, rfl, r1⟩ := one_of r
    split at h
    · obtain ⟨p, ws, rfl, en, hp, rk⟩ := dctAt_of hs r1 ‹_›
      exact .inl ⟨p, ws, rfl, .inl hp, fun q hq => h _ _ _ (Gr.obj hq) (hs.grow hq ⟨_, upd_same, rk.mono (Gr.obj hq)⟩) (.ref hs.last)⟩
    · split at h
      · split at h
        · obtain ⟨a, xs, rfl, hq, rs⟩ := litems_of hs r1 ‹_›
          obtain ⟨ps, ws, rfl, q1, q2⟩ := pairs_to rs ‹_›
          exact .inr ⟨a, ps, ws, rfl, hq, q1, fun q hq => h _ _ _ (Gr.obj hq) (hs.grow hq ⟨_, upd_same, (q2.merge .nil).mono (Gr.obj hq)⟩) (.ref hs.last)⟩
        · exact h.elim
      · exact h.elim
  · exact h.elim
def keyed : List (D × D) → Option (List (Key × D))
  | [] => some []
  | (k, v) :: r => match keyD k, keyed r with
    | some j, some s => some ((j, v) :: s)
    | _, _ => none
inductive RP (K : PySem.W.Frag) (μ : List Addr) (H : Hp) : List (V × V) → List (D × D) → Prop
  | nil : RP K μ H [] []
  | cons {x y : V} {d e : D} {vs : List (V × V)} {ds : List (D × D)} : RV K μ H x d → RV K μ H y e → RP K μ H vs ds → RP K μ H ((x, y) :: vs) ((d, e) :: ds)
theorem RP.keyed {K : PySem.W.Frag} {μ : List Addr} {H : Hp} : ∀ {vs : List (V × V)} {ds : List (D × D)} {kvs : List (Key × D)}, RP K μ H vs ds → DL.keyed ds = some kvs → ∃ ws : List (Key × V), vs = ws.map (fun kv => (kV kv.1, kv.2)) ∧ RKs K μ H ws kvs
  | _, _, _, .nil, e => by cases e; exact ⟨[], rfl, .nil⟩
  | _, _, _, .cons hx hy t, e => by
    unfold DL.keyed at e
    split at e
    · rename_i j s hj hs
      cases e
      obtain ⟨ws, rfl, q⟩ := RP.keyed t hs
      have ek := key_of hx hj
      subst ek
      exact ⟨(j, _) :: ws, rfl, .cons hy q⟩
    · cases e
def oGet : Op := fun d k S => match dctAt S d with
  | some (_, kvs) => (match keyD k with
    | some j => (match valD kvs j with
      | some v => .ok v S
      | none => .bad)
    | none => .bad)
  | none => oIx d k S
theorem pd_sub {a b : Expr} {da db : Den} {pos : Pos} (hu : X.A.units + 1 < cLine) (ha : PE X a (tD (gx X T) W da)) (hb : PE X b (tD (gx X T) W db)) (hp : PlainIx b := by exact fun _ _ => rfl) (hn : NoSl b := by exact fun _ _ => rfl) : PE X (.Subscript a b pos) (tD (gx X T) W (dBin oGet da db)) :=
  (L2.PE.or (pd_dget (T := T) (W := W) hu ha hb hn) (pd_ix (T := T) (W := W) ha hb hp)).imp fun σ H Q ⟨ε, μ, S, sr, hs, h⟩ => by
    unfold dBin at h
    cases ea : da ε S with
    | bad => rw [ea] at h; exact h.elim
    | exc c S1 =>
      rw [ea] at h
      refine .inr ⟨ε, μ, S, sr, hs, ?_⟩
      unfold dBin
      rw [ea]
      exact h
    | ok d S1 =>
      rw [ea] at h
      cases eb : db ε S1 with
      | bad => rw [R.bind_ok, eb] at h; exact h.elim
      | exc c S2 =>
        rw [R.bind_ok, eb] at h
        refine .inr ⟨ε, μ, S, sr, hs, ?_⟩
        unfold dBin
        rw [ea, R.bind_ok, eb]
        exact h
      | ok k S2 =>
        rw [R.bind_ok, eb, R.bind_ok] at h
        unfold oGet at h
        cases ed : dctAt S2 d with
        | none =>
          rw [ed] at h
          refine .inr ⟨ε, μ, S, sr, hs, ?_⟩
          unfold dBin
          rw [ea, R.bind_ok, eb, R.bind_ok]
          exact h
        | some z =>
          obtain ⟨n, kvs⟩ := z
          rw [ed] at h
          refine .inl ⟨ε, μ, S, sr, hs, ?_⟩
          unfold dGetI
          rw [ea, R.bind_ok, eb, R.bind_ok, ed]
          simp only at h ⊢
          cases ek : keyD k with
          | none => rw [ek] at h; exact h.elim
          | some j => rw [ek] at h; exact h
def iAny (a : Den) : IDen := fun ε S => (a ε S).bind fun d S => match d with
  | .tup ds => .ok (fun _ => some ds) S
  | .str x => .ok (fun _ => some (signs x)) S
  | d => (match litems S d with
    | some _ => .ok (fun S => litems S d) S
    | none => .bad)
theorem pid_any {tg e : Expr} {a : Den} (ha : PE X e (tD (gx X T) W a)) : PI X tg e (tIt (gx X T) W (iAny a)) :=
  (PI.or (pid_tup ha) (PI.or (pid_str ha) (pid_seq ha))).imp fun σ H Q ⟨ε, μ, S, sr, hs, h⟩ => by
    unfold iAny at h
    cases ea : a ε S with
    | bad => rw [ea] at h; exact h.elim
    | exc c S1 =>
      rw [ea] at h
      refine .inl ⟨ε, μ, S, sr, hs, ?_⟩
      unfold iTupD
      rw [ea]
      exact h
    | ok d S1 =>
      rw [ea, R.bind_ok] at h
      cases d with
      | tup ds =>
        refine .inl ⟨ε, μ, S, sr, hs, ?_⟩
        unfold iTupD
        rw [ea]
        exact h
      | str x =>
        refine .inr (.inl ⟨ε, μ, S, sr, hs, ?_⟩)
        unfold iSigns
        rw [ea]
        exact h
      | _ =>
        refine .inr (.inr ⟨ε, μ, S, sr, hs, ?_⟩)
        unfold iSeq
        rw [ea]
        exact h
end
end DL
namespace L2
open PySem PySem.Spec PyProof.Rows
theorem PS.or {X : Cx} {st : Stmt} {t t' : TS} (h : PS X st t) (h' : PS X st t') : PS X st (fun N σ H => t N σ H ∨ t' N σ H) := ⟨fun pins s σ H N I q => q.elim (h.run pins s σ H N I) (h'.run pins s σ H N I)⟩
theorem Room.u65 {k : Nat} {A : Around} (r : Room k A) : A.units + 65 < cLine := by have := r.un; omega
end L2
namespace DL
open PySem L2
section
variable {X : Cx} {T : Gt} {W : WX}
def sPut (o k v : Den) : SDen := fun ε S => sE (v ε S) ε fun x S => sE (o ε S) ε fun l S => sE (k ε S) ε fun y S => match dctAt S l with
  | some (n, kvs) => (match keyD y with
    | some j => if kvs.length < big then .ok (.nx ε) (S.set n (.dct (putD kvs j x))) else .bad
    | none => .bad)
  | none => (match lstAt S l, y with
    | some (n, ds), .int i => (match ixN ds.length i with
      | some j => .ok (.nx ε) (S.set n (.lst (ds.set j x)))
      | none => .bad)
    | _, _ => .bad)
end
end DL

set_option Elab.async false
set_option linter.all false
namespace DL
open PySem L2
theorem no_exc {P : Program} {w : World} {H : Hp} {s : Shared} {e : Value} {s' : Shared} (z : L2.CX P w [] H s (fun _ _ _ => False) e s') : False := by
  obtain ⟨_, _, _, _, _, _, _, _, _, _, _, _, z⟩ := z
  exact z
theorem hs_nil (G : Gc) (H : Hp) : HS G [] [] H := ⟨rfl, List.nodup_nil, fun n a o e => by simp at e⟩
theorem rvs_ints {K : PySem.W.Frag} {μ : List Addr} {H : Hp} : ∀ ns : List Int, RVs K μ H (ns.map V.int) (ns.map D.int)
  | [] => .nil
  | i :: r => .cons (.int i) (rvs_ints r)
theorem rv_script {K : PySem.W.Frag} {H : Hp} {a : Addr} {ns : List Int} (hO : Only H) (h : SqL K H a (ns.map V.int)) : RV K [] H (.ref a) (.seq (ns.map D.int)) := .seq (LstA.of hO h) (rvs_ints ns)
end DL

set_option Elab.async false
set_option linter.all false
set_option maxRecDepth 100000
set_option maxHeartbeats 1000000
namespace DL
open PySem L2 PyProof.Rows
structure ExcC (K : PySem.W.Frag) (C : Addr) : Prop where
  xin : PySem.W.excIn K C [.type "Exception", .type "BaseException", .type "object"] "Exception.__new__" = true
  kp : PySem.W.keepIn K (.ref C) = true
  sb : PySem.W.subIn K (.ref C) (.type "BaseException") = some true
  ty : PySem.W.typeIn K (.ref C) = some (.type "type")
  cl : PySem.W.isClsIn K C = true
  se : PySem.W.subIn K (.ref C) (.ref C) = some true
section
variable {X : Cx} {T : Gt} {W : WX} {C : Addr} {x m : Str} {j : Nat} {p p2 pos pos2 : Pos}
def sRaise (c : Str) : SDen := fun ε S => .ok (.ex c ε) S
end
end DL

set_option Elab.async false
set_option linter.all false
set_option maxRecDepth 100000
set_option maxHeartbeats 1000000
namespace DL.KS
open PySem PySem.Spec PyProof.Rows L2
variable {K : Type} [DecidableEq K]

section
variable {lt : K → K → Bool}
def ins1 (lt : K → K → Bool) (x : K) : List K → List K
  | [] => [x]
  | y :: r => if lt x y = true then x :: y :: r else if x = y then y :: r else y :: ins1 lt x r
def rise (lt : K → K → Bool) (ks : List K) : List K := ks.foldr (ins1 lt) []
abbrev Rising (lt : K → K → Bool) (ks : List K) : Prop := ks.Pairwise fun a b => lt a b = true
theorem mem_ins1 (O : Ord lt) {x z : K} : ∀ {l : List K}, z ∈ ins1 lt x l ↔ z = x ∨ z ∈ l
  | [] => by simp [ins1]
  | y :: r => by
    unfold ins1
    split
    · simp
    · split
      · rename_i e
        subst e
        simp
      · rw [List.mem_cons, mem_ins1 O, List.mem_cons]
        constructor
        · rintro (h | h | h)
          · exact .inr (.inl h)
          · exact .inl h
          · exact .inr (.inr h)
        · rintro (h | h | h)
          · exact .inr (.inl h)
          · exact .inl h
          · exact .inr (.inr h)
theorem rising_ins1 (O : Ord lt) {x : K} : ∀ {l : List K}, Rising lt l → Rising lt (ins1 lt x l)
  | [], _ => List.pairwise_singleton _ _
  | y :: r, h => by
    obtain ⟨h1, h2⟩ := List.pairwise_cons.mp h
    unfold ins1
    split
    · rename_i q
      exact List.pairwise_cons.mpr ⟨fun z m => by
        rcases List.mem_cons.mp m with rfl | m
        · exact q
        · exact O.trans _ _ _ q (h1 z m), h⟩
    · split
      · exact h
      · rename_i q e
        refine List.pairwise_cons.mpr ⟨fun z m => ?_, rising_ins1 O h2⟩
        rcases (mem_ins1 O).mp m with rfl | m
        · rcases O.tri z y with t | t | t
          · exact absurd t q
          · exact absurd t e
          · exact t
        · exact h1 z m
theorem mem_rise (O : Ord lt) {z : K} : ∀ {l : List K}, z ∈ rise lt l ↔ z ∈ l
  | [] => Iff.rfl
  | x :: l => by
    show z ∈ ins1 lt x (rise lt l) ↔ _
    rw [mem_ins1 O, mem_rise O, List.mem_cons]
theorem rising_rise (O : Ord lt) : ∀ l : List K, Rising lt (rise lt l)
  | [] => List.Pairwise.nil
  | x :: l => rising_ins1 O (rising_rise O l)
theorem rising_nodup (O : Ord lt) {l : List K} (h : Rising lt l) : l.Nodup := h.imp fun {a b} q e => by
  rw [e, O.irr] at q
  cases q
theorem rising_one (O : Ord lt) : ∀ {l m : List K}, Rising lt l → Rising lt m → (∀ z, z ∈ l ↔ z ∈ m) → l = m
  | [], [], _, _, _ => rfl
  | [], y :: m, _, _, h => nomatch (h y).mpr List.mem_cons_self
  | x :: l, [], _, _, h => nomatch (h x).mp List.mem_cons_self
  | x :: l, y :: m, a, b, h => by
    obtain ⟨a1, a2⟩ := List.pairwise_cons.mp a
    obtain ⟨b1, b2⟩ := List.pairwise_cons.mp b
    have e : x = y := by
      rcases List.mem_cons.mp ((h x).mp List.mem_cons_self) with e | m1
      · exact e
      rcases List.mem_cons.mp ((h y).mpr List.mem_cons_self) with e | m2
      · exact e.symm
      have z := O.trans _ _ _ (b1 x m1) (a1 y m2)
      rw [O.irr] at z
      cases z
    subst e
    rw [rising_one O a2 b2 fun z => ?_]
    have q := h z
    rw [List.mem_cons, List.mem_cons] at q
    constructor
    · intro m1
      rcases q.mp (.inr m1) with e | r
      · have t := a1 z m1
        rw [e, O.irr] at t
        cases t
      · exact r
    · intro m1
      rcases q.mpr (.inr m1) with e | r
      · have t := b1 z m1
        rw [e, O.irr] at t
        cases t
      · exact r
theorem nodup_len : ∀ (l D : List K), l.Nodup → (∀ x ∈ l, x ∈ D) → l.length ≤ D.length
  | [], _, _, _ => Nat.zero_le _
  | x :: l, D, nd, h => by
    obtain ⟨n1, n2⟩ := List.nodup_cons.mp nd
    have ih := nodup_len l (D.erase x) n2 fun y m => (List.mem_erase_of_ne (fun e => n1 (by rw [← e]; exact m))).mpr (h y (List.mem_cons_of_mem _ m))
    have m := h x List.mem_cons_self
    have p := List.length_pos_of_mem m
    rw [List.length_erase_of_mem m] at ih
    rw [List.length_cons]
    omega
theorem few_of (O : Ord lt) {ks : List K} {n : Nat} (h : (rise lt ks).length < n) : ∀ M : List K, M.Nodup → (∀ k ∈ M, k ∈ ks) → M.length < n := fun M nd sub =>
  Nat.lt_of_le_of_lt (nodup_len M _ nd fun k m => (mem_rise O).mpr (sub k m)) h
end

theorem pick_back {α β : Type} {f : α → β} {zs : List α} : ∀ {l : List β}, (∀ p ∈ l, p ∈ zs.map f) → ∃ m : List α, l = m.map f ∧ ∀ z ∈ m, z ∈ zs
  | [], _ => ⟨[], rfl, fun _ m => nomatch m⟩
  | x :: l, h => by
    obtain ⟨z, mz, e⟩ := List.mem_map.mp (h x List.mem_cons_self)
    obtain ⟨m, e2, s⟩ := pick_back fun p hp => h p (List.mem_cons_of_mem _ hp)
    refine ⟨z :: m, by rw [List.map_cons, e, e2], fun y my => ?_⟩
    rcases List.mem_cons.mp my with rfl | my
    · exact mz
    · exact s y my
theorem vals_map {xs : List (V × Value × K)} : (∀ y ∈ xs, RelV y.1 y.2.1) → Vals (xs.map (·.1)) (xs.map (·.2.1)) := by
  induction xs with
  | nil => intro _; exact .nil
  | cons y xs ih => intro h; exact .cons (h y List.mem_cons_self) (ih fun z m => h z (List.mem_cons_of_mem _ m))
theorem vals_zip {zs : List (V × K)} : ∀ {us : List Value}, Vals (zs.map (·.1)) us → ∃ ws : List (V × Value × K), (ws.map fun y => (y.1, y.2.2)) = zs ∧ ws.map (·.2.1) = us ∧ ∀ y ∈ ws, RelV y.1 y.2.1 := by
  induction zs with
  | nil => intro us h; cases h; exact ⟨[], rfl, rfl, fun _ m => nomatch m⟩
  | cons z zs ih =>
    intro us h
    cases h with
    | @cons _ u _ us r t =>
      obtain ⟨ws, e1, e2, g⟩ := ih t
      refine ⟨(z.1, u, z.2) :: ws, by rw [List.map_cons, e1], by rw [List.map_cons, e2], fun y m => ?_⟩
      rcases List.mem_cons.mp m with rfl | m
      · exact r
      · exact g y m

def Set0 {P : Program} {w : World} (κ : Kd P w K) (a : Addr) (L : List (Value × K)) (h : Heap) : Prop :=
  ∃ o es ep t, h.get? a = some o ∧ o.ExactSet ∧ o.data = .set es ep t ∧ es.toList = L.map κ.row ∧ (L.map Prod.snd).Nodup ∧ t.fits es.size = true ∧ Ris t.place.toList ∧
    (w.params.followText "set-order" = true ∨ t.led = true) ∧ L.length < 64 ∧ κ.also t (L.map fun p => κ.code p.2)
def setHO {P : Program} {w : World} (κ : Kd P w K) (a : Addr) (L : List (Value × K)) : HO := .ext (Set0 κ a L)
theorem set0_of {P : Program} {w : World} {κ : Kd P w K} {h : Heap} {a : Addr} {L : List (Value × K)} : SetAt κ h a L → Set0 κ a L h
  | ⟨o, es, ep, t, R⟩ => ⟨o, es, ep, t, R.at_, R.exact_, R.dat, R.rows, R.alone, R.fit, R.up, R.lead, R.few, R.also⟩
theorem of_set0 {P : Program} {w : World} {κ : Kd P w K} {h : Heap} {a : Addr} {L : List (Value × K)} : Set0 κ a L h → (∀ p ∈ L, κ.holds h p.2 p.1) → SetAt κ h a L
  | ⟨o, es, ep, t, h1, h2, h3, h4, h5, h6, h7, h8, h9, h10⟩, m => ⟨o, es, ep, t, h1, h2, h3, h4, h5, m, h6, h7, h8, h9, h10⟩
theorem set0_ok {P : Program} {w : World} {κ : Kd P w K} {H : Hp} {h : Heap} {a : Addr} {L : List (Value × K)} (g : Set0 κ a L h) : ObjOk P w H h a (setHO κ a L) := by
  obtain ⟨o, es, ep, t, h1, r⟩ := id g
  exact ⟨g, ⟨o, h1⟩, fun x y ⟨o', es', ep', t', z, r'⟩ k => ⟨o', es', ep', t', k o' z, r'⟩⟩

section
variable {X : Cx} {κ : Kd X.prog X.w K} {kv : Hp → V → K → Prop}
def Reads (X : Cx) (κ : Kd X.prog X.w K) (kv : Hp → V → K → Prop) : Prop := ∀ {pins : List (Addr × Obj)} {σ : L2.St} {H : Hp} {s : Shared} {x : V} {k : K} {u : Value}, Inv X pins σ H s → kv H x k → RelV x u → κ.holds s.heap k u
def rSet (κ : Kd X.prog X.w K) (kv : Hp → V → K → Prop) : List V → Hp → VK → Prop := fun xs H Q => ∃ (l : Addr) (zs : List (V × K)), xs = [V.ref l] ∧ SqL X.K H l (zs.map (·.1)) ∧ (∀ z ∈ zs, kv H z.1 z.2) ∧
  (∀ M : List K, M.Nodup → (∀ k ∈ M, k ∈ zs.map (·.2)) → M.length < 64) ∧
  ∀ a (Ls : List (V × Value × K)), H a = none → (∀ y ∈ Ls, (y.1, y.2.2) ∈ zs ∧ RelV y.1 y.2.1) → (Ls.map (·.2.2)).Nodup → (∀ z ∈ zs, z.2 ∈ Ls.map (·.2.2)) → Q (.ref a) (upd H a (setHO κ a (Ls.map (·.2))))
theorem cr_set (rd : Reads X κ kv) (tk : Takes κ) (h0 : κ.also (.fresh 0 0 (!X.w.params.followText "set-order")) []) (hc : X.calm = true) (hu : κ.calm X.A.in1.in1.in1) : CallR X (.type "set") (rSet κ kv) := by
  intro pins s σ H xs us Q I r ⟨l, zs, e, hl, hk, few, q⟩
  subst e
  rw [Vals.ref1 r]
  obtain ⟨its, rv, pl, hz⟩ := I.list hl
  obtain ⟨ws, e1, e2, rl⟩ := vals_zip rv
  have hn : H s.heap.objs.size = none := I.hok.fresh (Nat.le_refl _)
  have inz : ∀ y ∈ ws, (y.1, y.2.2) ∈ zs := fun y m => by rw [← e1]; exact List.mem_map_of_mem m
  have keys : (ws.map (·.2)).map Prod.snd = zs.map (·.2) := by rw [← e1, List.map_map, List.map_map]; rfl
  refine make_set tk h0 (ws.map (·.2)) (I.ok.hd hc) pl.isList (by rw [List.map_map]; show _ = ws.map (·.2.1); rw [e2]) (fun p m => ?_) (by rw [keys]; exact few) hu fun h' t' L S g k => ?_
  · obtain ⟨y, my, rfl⟩ := List.mem_map.mp m
    exact rd I (hk _ (inz y my)) (rl y my)
  · obtain ⟨Ls, e3, sub⟩ := pick_back (f := fun y : V × Value × K => y.2) (zs := ws) fun p m => List.mem_of_mem_take (g.from_ p m)
    subst e3
    have al : (Ls.map (·.2.2)).Nodup := by
      obtain ⟨_, _, _, _, R⟩ := S
      have z := R.alone
      rw [List.map_map] at z
      exact z
    refine ⟨.ref s.heap.objs.size, upd H s.heap.objs.size (setHO κ s.heap.objs.size (Ls.map (·.2))), I.laid (t' := t') k (Nat.le_refl _) (set0_ok (set0_of S)), rfl, q _ Ls hn (fun y m => ⟨inz y (sub y m), rl y (sub y m)⟩) al fun z mz => ?_⟩
    have m1 : z.2 ∈ (ws.map (·.2)).map Prod.snd := by rw [keys]; exact List.mem_map_of_mem mz
    obtain ⟨p, mp, ep⟩ := List.mem_map.mp m1
    have m2 := g.all p (by rw [List.take_length]; exact mp)
    rw [ep, List.map_map] at m2
    exact m2
def rSortSet (κ : Kd X.prog X.w K) (kv : Hp → V → K → Prop) (good : K → Prop) (lt : K → K → Bool) : List V → Hp → VK → Prop := fun vs H Q => ∃ (a : Addr) (Ls : List (V × Value × K)), vs = [V.ref a] ∧ H a = some (setHO κ a (Ls.map (·.2))) ∧
  (∀ y ∈ Ls, kv H y.1 y.2.2 ∧ RelV y.1 y.2.1 ∧ good y.2.2) ∧
  ∀ (M : List (V × Value × K)) (p : Addr), M.Perm Ls → Rising lt (M.map (·.2.2)) → H p = none → Q (.ref p) (upd H p (.lst (M.map (·.1))))
theorem cr_sortSet {good : K → Prop} {lt : K → K → Bool} (rd : Reads X κ kv) (C : Cmps κ lt good) (O : Ord lt) (hc : X.calm = true) : CallR X (.builtin "sorted") (rSortSet κ kv good lt) := by
  intro pins s σ H vs us Q I r ⟨a, Ls, e, ha, hk, q⟩
  subst e
  rw [Vals.ref1 r]
  have g0 : Set0 κ a (Ls.map (·.2)) s.heap := (I.hok a _ ha).1
  have few : Ls.length < 64 := by
    obtain ⟨_, _, _, _, _, _, _, _, _, _, _, _, z, _⟩ := g0
    rw [List.length_map] at z
    exact z
  refine sort_set C O (of_set0 g0 fun p m => ?_) (fun p m => ?_) (I.ok.hd hc) fun s' p out c M0 k g o hp hg hout pm pw => ?_
  · obtain ⟨y, my, rfl⟩ := List.mem_map.mp m
    exact rd I (hk y my).1 (hk y my).2.1
  · obtain ⟨y, my, rfl⟩ := List.mem_map.mp m
    exact (hk y my).2.2
  · obtain ⟨M, e, pM⟩ := perm_back pm
    subst e
    have len : (M.map (·.1)).length ≤ sizeLine := by rw [List.length_map, pM.length_eq, sizeLine_eq]; omega
    have hn : H p = none := I.hok.fresh hp
    have hv : Vals (M.map (·.1)) out.toList := by
      rw [hout, List.map_map]
      exact vals_map fun y m => (hk y (pM.mem_iff.mp m)).2.1
    have J : Inv X pins σ (upd H p (.lst (M.map (·.1)))) { s with heap := s'.heap, gens := s'.gens, drawn := s'.drawn, toks := s'.toks } :=
      I.call (ch := []) (Un.laid k hp hn) (I.hok.laid k hp ⟨len, out.toList, c, hv, hg⟩) (by rw [g]; exact I.bare) (fun _ z => nomatch z)
    have e : s' = { s with heap := s'.heap, gens := s'.gens, drawn := s'.drawn, toks := s'.toks } := by
      cases s'
      cases s
      cases o
      rfl
    rw [e]
    exact ⟨.ref p, _, J, rfl, q M p pM (List.pairwise_map.mpr (List.pairwise_map.mp pw)) hn⟩
end
end DL.KS

set_option Elab.async false
set_option linter.all false
set_option maxRecDepth 100000
set_option maxHeartbeats 1000000
namespace DL
open PySem L2
open KS (Kd Reads Takes Cmps Ord rise Rising kT kV tLt sLt iLt)
variable {X : Cx} {T : Gt} {W : WX} {K : Type} [DecidableEq K]

def dSSk (key : D → Option K) (lt : K → K → Bool) (kd : K → D) (a : Den) : Den := fun ε S => (a ε S).bind fun d S => match litems S d with
  | some ds => (match fall key ds with
    | some ks => if (rise lt ks).length < 64 then .ok (.ref S.length) (S ++ [.lst ((rise lt ks).map kd)]) else .bad
    | none => .bad)
  | none => .bad
theorem rvs_zip {F : PySem.W.Frag} {μ : List Addr} {H : Hp} {kd : K → D} : ∀ {ks : List K} {xs : List V}, RVs F μ H xs (ks.map kd) → ∃ zs : List (V × K), zs.map (·.1) = xs ∧ zs.map (·.2) = ks ∧ ∀ z ∈ zs, RV F μ H z.1 (kd z.2)
  | [], _, .nil => ⟨[], rfl, rfl, fun _ m => nomatch m⟩
  | k :: ks, x :: xs, .cons h t => by
    obtain ⟨zs, e1, e2, g⟩ := rvs_zip t
    refine ⟨(x, k) :: zs, by rw [List.map_cons, e1], by rw [List.map_cons, e2], fun z m => ?_⟩
    rcases List.mem_cons.mp m with rfl | m
    · exact h
    · exact g z m
theorem rvs_of {F : PySem.W.Frag} {μ : List Addr} {H : Hp} {kd : K → D} : ∀ {M : List (V × Value × K)}, (∀ y ∈ M, RV F μ H y.1 (kd y.2.2)) → RVs F μ H (M.map (·.1)) ((M.map (·.2.2)).map kd)
  | [], _ => .nil
  | y :: M, h => .cons (h y List.mem_cons_self) (rvs_of fun z m => h z (List.mem_cons_of_mem _ m))
theorem fall_kd {key : D → Option K} {kd : K → D} (hk : ∀ d k, key d = some k → d = kd k) {ds : List D} {ks : List K} (h : fall key ds = some ks) : ds = ks.map kd := by
  induction ds generalizing ks with
  | nil => cases h; rfl
  | cons d ds ih =>
    unfold fall at h
    split at h
    · cases h
      rename_i b s h1 h2
      rw [List.map_cons, ← ih h2, ← hk _ _ h1]
    · cases h
theorem fall_gd {key : D → Option K} {good : K → Prop} (hk : ∀ d k, key d = some k → good k) {ds : List D} {ks : List K} (h : fall key ds = some ks) : ∀ k ∈ ks, good k := by
  induction ds generalizing ks with
  | nil => cases h; exact fun _ m => nomatch m
  | cons d ds ih =>
    unfold fall at h
    split at h
    · cases h
      rename_i b s h1 h2
      intro k m
      rcases List.mem_cons.mp m with rfl | m
      · exact hk _ _ h1
      · exact ih h2 k m
    · cases h
section
variable {κ : Kd X.prog X.w K} {kv : Hp → V → K → Prop} {good : K → Prop} {lt : K → K → Bool} {key : D → Option K} {kd : K → D} {e : Expr} {a : Den} {p1 p2 p3 p4 : Pos}
theorem pd_ssk (rd : Reads X κ kv) (C : Cmps κ lt good) (O : Ord lt) (tk : Takes κ) (h0 : κ.also (.fresh 0 0 (!X.w.params.followText "set-order")) []) (hc : X.calm = true) (hu : κ.calm X.A.in1.in1.in1)
    (hk : ∀ d k, key d = some k → d = kd k) (hgd : ∀ d k, key d = some k → good k) (hkv : ∀ μ H v k, RV X.K μ H v (kd k) → kv H v k)
    (hg : Gl X "sorted") (hm : X.mg "sorted" = none) (hg2 : Gl X "set") (hm2 : X.mg "set" = none) (ha : PE X e (tD (gx X T) W a))
    (hst : starEach [e] X.env = (false, eval e X.env) :: starEach [] X.env := by rfl) :
    PE X (.Call (.Name "sorted" p1) [.Call (.Name "set" p2) [e] [] p3] [] p4) (tD (gx X T) W (dSSk key lt kd a)) := by
  refine (pe_callB (KS.cr_sortSet rd C O hc) hg hm rfl (pa_cons (pe_callTy (KS.cr_set rd tk h0 hc hu) hg2 hm2 rfl (pa_cons ha pa_nil hst) (he := hst)) pa_nil)).imp fun σ H Q ⟨ε, μ, S, sr, hs, h⟩ => ?_
  refine (⟨ε, μ, S, sr, hs, (wR.bind (Rl := rlV (gx X T)) sr h).imp fun v H1 ⟨d, μ1, S1, g1, hs1, sr1, r1, h1⟩ => ?_⟩ : tD (gx X T) W a σ H fun v H1 => KS.rSet κ kv [v] H1 fun x H2 => KS.rSortSet κ kv good lt [x] H2 Q)
  split at h1
  · rename_i ds hd
    split at h1
    · rename_i ks hks
      split at h1
      · rename_i few
        have eds := fall_kd hk hks
        subst eds
        obtain ⟨l, xs, rfl, hl, rs⟩ := litems_of hs1 r1 hd
        obtain ⟨zs, e1, e2, rz⟩ := rvs_zip rs
        refine ⟨l, zs, rfl, by rw [e1]; exact hl, fun z m => hkv _ _ _ _ (rz z m), by rw [e2]; exact KS.few_of O few, fun b Ls hn sub nd cov => ?_⟩
        have G := Gr.new (μ := μ1) (H := H1) (o := KS.setHO κ b (Ls.map (·.2))) hn
        have rv : ∀ y ∈ Ls, RV X.K μ1 (upd H1 b (KS.setHO κ b (Ls.map (·.2)))) y.1 (kd y.2.2) := fun y m => (rz _ (sub y m).1).mono G
        refine ⟨b, Ls, rfl, upd_same, fun y m => ⟨hkv _ _ _ _ (rv y m), (sub y m).2, ?_⟩, fun M p pm ris hp => ?_⟩
        · refine fall_gd hgd hks _ ?_
          rw [← e2]
          exact List.mem_map_of_mem (f := fun z : V × K => z.2) (sub y m).1
        · have hs2 := hs1.beside (u := KS.setHO κ b (Ls.map (·.2))) hn
          have ek : M.map (·.2.2) = rise lt ks := KS.rising_one O ris (KS.rising_rise O ks) fun z => by
            rw [KS.mem_rise O, (pm.map (·.2.2)).mem_iff]
            constructor
            · intro m
              obtain ⟨y, my, rfl⟩ := List.mem_map.mp m
              rw [← e2]
              exact List.mem_map_of_mem (f := fun z : V × K => z.2) (sub y my).1
            · intro m
              rw [← e2] at m
              obtain ⟨y, my, rfl⟩ := List.mem_map.mp m
              exact cov y my
          have rl : RVs X.K μ1 (upd H1 b (KS.setHO κ b (Ls.map (·.2)))) (M.map (·.1)) ((rise lt ks).map kd) := by
            rw [← ek]
            exact rvs_of fun y m => rv y (pm.mem_iff.mp m)
          exact h1 _ _ _ (G.trans (Gr.obj hp)) (hs2.grow hp ⟨_, upd_same, rl.mono (Gr.obj hp)⟩) (.ref hs2.last)
      · exact h1.elim
    · exact h1.elim
  · exact h1.elim
end
def keyX : D → Option (List Str)
  | .tup ds => (match fall strD ds with
    | some [] => none
    | r => r)
  | _ => none
def unK (k : List Str) : D := .tup (k.map D.str)
theorem keyX_un {d : D} {k : List Str} (h : keyX d = some k) : d = unK k ∧ k ≠ [] := by
  cases d with
  | tup ds =>
    simp only [keyX] at h
    split at h
    · cases h
    · rename_i ne
      exact ⟨by rw [fall_strs h]; rfl, fun e => by subst e; exact ne h⟩
  | _ => cases h
theorem strD_un {d : D} {k : Str} (h : strD d = some k) : d = .str k := by cases d <;> cases h; rfl
theorem intD_un {d : D} {k : Int} (h : intD d = some k) : d = .int k := by cases d <;> cases h; rfl
def kvT (F : PySem.W.Frag) (H : Hp) (x : V) (k : List Str) : Prop := ∃ p, x = .ref p ∧ SqT F H p (k.map V.str)
theorem items_texts {P : Program} {w : World} : ∀ {k : List Str} {us : List Value}, Vals (k.map V.str) us → ItemsAre (PySem.strKind P w) k us
  | [], _, .nil => .nil
  | n :: k, _, .cons r t => by
    obtain ⟨u, rfl⟩ := r
    exact .cons (strKind_is P w n u) (items_texts t)
theorem rd_tup : Reads X (kT X.prog X.w) (kvT X.K) := fun {pins σ H s x k u} I ⟨p, e, h⟩ r => by
  subst e
  obtain ⟨its, rv, ⟨o, ho, hc, n, hd⟩, _⟩ := I.tuple h
  exact ⟨p, r, o, its.toArray, n, ho, hc, hd, by simpa using items_texts rv⟩
theorem rd_str : Reads X (kV (PySem.strKind X.prog X.w)) (fun _ x k => x = .str k) := fun {pins σ H s x k u} I e r => by
  subst e
  obtain ⟨t, rfl⟩ := r
  exact strKind_is _ _ _ _
theorem rd_int : Reads X (kV (PySem.intKind X.prog X.w)) (fun _ x k => x = .int k) := fun {pins σ H s x k u} I e r => by
  subst e
  obtain ⟨t, rfl⟩ := r
  exact intKind_is _ _ _ _
theorem ints_are {P : Program} {w : World} : ∀ vs : List Value, (∀ v ∈ vs, ∃ x u, v = Value.int x u) → ∃ xs, PyProof.Rows.IntsAre vs xs
  | [], _ => ⟨[], .nil⟩
  | v :: vs, h => by
    obtain ⟨x, u, rfl⟩ := h v List.mem_cons_self
    obtain ⟨xs, r⟩ := ints_are (P := P) (w := w) vs fun y m => h y (List.mem_cons_of_mem _ m)
    exact ⟨x :: xs, .cons x u r⟩
theorem cmps_ints {P : Program} {w : World} : Cmps (kV (PySem.intKind P w)) iLt (fun _ => True) := by
  intro A E s vs Q two all hQ
  obtain ⟨xs, r⟩ := ints_are (P := P) (w := w) vs fun v m => by
    obtain ⟨k, hk, _⟩ := all v m
    obtain ⟨t, e⟩ := Value.isInt_shape hk
    exact ⟨k, t, e⟩
  match vs, two, all, hQ, r with
  | v1 :: v2 :: vs, two, all, hQ, r =>
    rw [PyProof.Rows.keyKind_ints r]
    refine wpAny_pure (hQ _ fun u hu v hv k j hk hj C E' q => ?_)
    obtain ⟨t, rfl⟩ := Value.isInt_shape hk
    obtain ⟨t', rfl⟩ := Value.isInt_shape hj
    exact PySem.W.kat_lt_int q
def dSS (a : Den) : Den := fun ε S => match dSSk keyX tLt unK a ε S with
  | .bad => (match dSSk strD sLt D.str a ε S with
    | .bad => dSSk intD iLt D.int a ε S
    | r => r)
  | r => r
theorem pd_ss {e : Expr} {a : Den} {p1 p2 p3 p4 : Pos} (hc : X.calm = true) (hu : X.A.units + 65 < cLine) (hg : Gl X "sorted") (hm : X.mg "sorted" = none) (hg2 : Gl X "set") (hm2 : X.mg "set" = none) (ha : PE X e (tD (gx X T) W a))
    (hst : starEach [e] X.env = (false, eval e X.env) :: starEach [] X.env := by rfl) :
    PE X (.Call (.Name "sorted" p1) [.Call (.Name "set" p2) [e] [] p3] [] p4) (tD (gx X T) W (dSS a)) := by
  have h1 := pd_ssk (p1 := p1) (p2 := p2) (p3 := p3) (p4 := p4) (key := keyX) (kd := unK) (rd_tup (X := X)) KS.cmps_tups KS.ord_tup KS.takes_tups (KS.also_tups _ _) hc (by show X.A.units + 1 + 1 + 1 < cLine; omega) (fun d k h => (keyX_un h).1) (fun d k h => (keyX_un h).2)
    (fun μ H v k r => by cases r with | tup t _ rs => exact ⟨_, rfl, by rw [← rs.strs]; exact t.sq⟩) hg hm hg2 hm2 ha hst
  have h2 := pd_ssk (p1 := p1) (p2 := p2) (p3 := p3) (p4 := p4) (key := strD) (kd := D.str) (rd_str (X := X)) KS.cmps_strs KS.ord_str (KS.takes_flat fun k v h => by obtain ⟨t, rfl⟩ := Value.isStrOf_shape h; rfl) trivial hc trivial (fun d k h => strD_un h) (fun d k h => trivial)
    (fun μ H v k r => by cases r; rfl) hg hm hg2 hm2 ha hst
  have h3 := pd_ssk (p1 := p1) (p2 := p2) (p3 := p3) (p4 := p4) (key := intD) (kd := D.int) (rd_int (X := X)) cmps_ints KS.ord_int (KS.takes_flat fun k v h => by obtain ⟨t, rfl⟩ := Value.isInt_shape h; rfl) trivial hc trivial (fun d k h => intD_un h) (fun d k h => trivial)
    (fun μ H v k r => by cases r; rfl) hg hm hg2 hm2 ha hst
  refine ⟨fun pins s σ H Q I ⟨ε, μ, S, sr, hs, h⟩ => ?_⟩
  unfold dSS at h
  split at h
  · split at h
    · exact h3.run pins s σ H Q I ⟨ε, μ, S, sr, hs, h⟩
    · exact h2.run pins s σ H Q I ⟨ε, μ, S, sr, hs, h⟩
  · exact h1.run pins s σ H Q I ⟨ε, μ, S, sr, hs, h⟩
end DL

set_option Elab.async false
set_option linter.all false
set_option maxRecDepth 100000
set_option maxHeartbeats 1000000
namespace DL.KS
open PySem L2 PyProof.Rows
section
end
section
end
section
end
end DL.KS

set_option Elab.async false
set_option linter.all false
set_option maxRecDepth 100000
set_option maxHeartbeats 1000000
namespace DL
open PySem PySem.Spec PyProof.Rows L2
theorem meets_enum1 {v : Value} {o : Obj} {H : Heap → Prop} (B : Begins v o H) :
    Meets (Builtin.«enumerate.__new__» ⟨[.type "enumerate", v], []⟩) (fun _ R s => H s.heap ∧
      R (.ok (.ret (.ref (s.heap.push o).objs.size))) { s with heap := (s.heap.push o).push { cls := .type "enumerate", data := .fields #[.none, .bool false, .ref s.heap.objs.size, rawInt 0, .none, .none] } }) :=
  .of_wp fun prog w A R s ⟨h1, h⟩ => by
    obtain ⟨hp, g, d, tk, os⟩ := s
    have hsub := sub_enumerate
    have q1 : ∀ {A' : Around} {E : Value → Shared → Prop} {Q : Value → Shared → Prop}, Q (.ref hp.objs.size) ⟨hp.push o, g, d, tk, os⟩ → wpAny (model prog w) A' (pyIter v) Q E ⟨hp, g, d, tk, os⟩ := fun q => B.iter prog w _ _ ⟨hp, g, d, tk, os⟩ _ h1 q
    wp_walk using q1
    refine wpAny_stack_any fun st => wpAny_pure ?_
    split
    · rename_i c _ _ _ _ _
      cases (c == Value.type "enumerate")
      · wp_walk using q1
        exact ⟨_, rfl, h⟩
      · wp_walk using q1
        exact ⟨_, rfl, h⟩
    · wp_walk using q1
      exact ⟨_, rfl, h⟩
section
variable {prog : Program} {w : World} {A : Around} {E : Value → Shared → Prop} {s : Shared}
theorem call_enum1 {v : Value} {o : Obj} {H : Heap → Prop} {Q : Value → Shared → Prop} (B : Begins v o H) (h1 : H s.heap)
    (h : ∀ h', IsEnum h' (s.heap.objs.size + 1) s.heap.objs.size 0 .none → h'.get? s.heap.objs.size = some o → h'.objs.size = s.heap.objs.size + 2 → (∀ b u, s.heap.get? b = some u → h'.get? b = some u) → Q (.ref (s.heap.objs.size + 1)) { s with heap := h' }) :
    wpAny (model prog w) A (call (.type "enumerate") [v]) Q E s := by
  refine callType_new F.called_enumerate (by decide) (F.typeCall_enumerate_1 _) (F.newCall_enumerate_1 _) (fun obj => F.args_object_init_2 obj _) F.entry_enumerate_new (meets_enum1 B) ⟨h1, ?_⟩
  have z : (s.heap.push o).objs.size = s.heap.objs.size + 1 := Heap.size_push ..
  show _ ∧ _
  rw [z]
  have he : ((s.heap.push o).push { cls := .type "enumerate", data := .fields #[.none, .bool false, .ref s.heap.objs.size, rawInt 0, .none, .none] }).get? (s.heap.objs.size + 1) = some { cls := .type "enumerate", data := .fields #[.none, .bool false, .ref s.heap.objs.size, rawInt 0, .none, .none] } := by
    rw [← z]; exact Heap.get?_push_size _ rfl
  exact ⟨⟨_, he, rfl⟩, h _ he (Heap.get?_push_of_some _ (Heap.get?_push_size _ B.free)) (by rw [Heap.size_push, z]) fun b u e => Heap.get?_push_of_some _ (Heap.get?_push_of_some _ e)⟩
end
def IteT (K : PySem.W.Frag) (a : Addr) : It :=
  ⟨fun i H => ∃ (xs : List V) (x : V), SqT K H a xs ∧ xs[i]? = some x, fun i H v H' => ∃ T x, v = .ref T ∧ H T = none ∧ H' = upd H T (.tup [.int (i : Nat), x]) ∧ ∀ xs, SqT K H a xs → xs[i]? = some x, fun i H => ∃ xs : List V, SqT K H a xs ∧ xs.length ≤ i⟩
theorem turn_enumT {P : Program} {w : World} {K : PySem.W.Frag} {elts : List Expr} {kk : Nat} {tpos : Pos} (a e it : Addr) :
    Turn P w K (.Tuple elts kk tpos) (IteT K a) [e, it] e (fun i h => (∃ old, IsEnum h e it ((i : Nat) : Int) old) ∧ h.IsTupleIter it a i ∧ e ≠ it ∧ a ≠ e ∧ a ≠ it) where
  mem := by simp
  obj := fun i h ⟨⟨old, he⟩, ⟨o, ho, hc, hd⟩, _⟩ b hb => by
    rcases (show b = e ∨ b = it by simpa using hb) with rfl | rfl
    · exact ⟨_, he, fun v q => nomatch q⟩
    · exact ⟨o, ho, fun v q => by rw [hd] at q; cases q⟩
  keep := fun i h h' ⟨⟨old, he⟩, hi, r⟩ k => ⟨⟨old, k e (by simp) _ he⟩, hi.at fun o q => k it (by simp) o q, r⟩
  item := by
    intro X hP hw hK hc i pins s σ H E I hf ⟨⟨old, he⟩, hit, n1, n2, n3⟩ ⟨xs, x, hq, hx⟩
    subst hP hw hK
    obtain ⟨its, rv, p, hz⟩ := I.tuple hq
    obtain ⟨u, hu, ru⟩ := rv.get hx
    have le : e < s.heap.objs.size := Heap.lt_size he
    have lit : it < s.heap.objs.size := by obtain ⟨_, q, _⟩ := hit; exact Heap.lt_size q
    have hi : i < its.toArray.size := by simpa using (List.getElem?_eq_some_iff.mp hu).1
    have D := Draws.tuple (prog := X.prog) (w := X.w) (A := X.A.in1) (by simp [I.ok.hd hc]) it a n3 its.toArray
    refine wpAny_pyNext_enum_itemD D he ⟨hit, p⟩ hi n1 (by simp [n1, Ne.symm n2]) fun u' h' tk hu' ho st' hT hsz hk => ?_
    obtain rfl : u = u' := by
      rw [List.getElem?_toArray, hu] at hu'
      exact Option.some.inj hu'
    refine ⟨_, rfl, wpAny_letOwnedTupleGo_enum (s := { s with heap := h', toks := tk + 1 }) ho fun h2 he2 sb => ?_⟩
    have T2 : h2.get? s.heap.objs.size = some { cls := .type "tuple", data := .seq #[.int i tk, u] } := (sb.2 _ (Nat.ne_of_gt le)).trans hT
    have new : ObjOk X.prog X.w (upd H s.heap.objs.size (.tup [.int (i : Nat), x])) h2 s.heap.objs.size (.tup [.int (i : Nat), x]) :=
      ⟨by show 2 ≤ sizeLine; decide, [.int i tk, u], .cons ⟨_, rfl⟩ (.cons ru .nil), ⟨_, T2, rfl, _, rfl⟩⟩
    have I1 : Inv X pins σ (upd H s.heap.objs.size (.tup [.int (i : Nat), x])) { s with heap := h2, toks := tk + 1 } :=
      I.turnedNew (ch := [e, it]) (fun b ob hb q => (sb.2 b (fun z => hb (by simp [z]))).trans (hk b ob (fun z => hb (by simp [z])) (fun z => hb (by simp [z])) q)) hf (Nat.le_refl _) new
    refine ⟨.ref s.heap.objs.size, _, I1, rfl, ⟨_, x, rfl, I.hok.fresh (Nat.le_refl _), rfl, fun ys hy => by rw [I.tuple_inj hy hq]; exact hx⟩, ⟨⟨u, ?_⟩, st'.1.at fun o q => (sb.2 it (Ne.symm n1)).trans q, n1, n2, n3⟩, fun b hb => ?_⟩
    · rw [show ((i + 1 : Nat) : Int) = (i : Int) + 1 by omega]; exact he2
    · have lb : b < s.heap.objs.size := by
        rcases (show b = e ∨ b = it by simpa using hb) with rfl | rfl
        · exact le
        · exact lit
      rw [upd_ne (Nat.ne_of_lt lb)]
      exact (hf b hb).1
  done := by
    intro X hP hw hK hc i pins s σ H E I hf ⟨⟨old, he⟩, hit, n1, n2, n3⟩ ⟨xs, hq, hx⟩
    subst hP hw hK
    obtain ⟨its, rv, p, hz⟩ := I.tuple hq
    have none_ : its.toArray[i]? = none := by
      have := rv.length
      simp
      omega
    have hh : X.A.in1.handled = none := by simp [I.ok.hd hc]
    have D : Draws X.prog X.w X.A.in1 it [it, a] i (fun _ _ => True) (fun j h => j = i ∧ h.IsTupleIter it a i ∧ h.IsTuple a its.toArray) :=
      ⟨fun _ _ st => let ⟨o, ho, _⟩ := st.2.1; ⟨o, ho⟩, fun _ _ _ st hk => ⟨st.1, st.2.1.at fun o e => hk it (by simp) o e, st.2.2.at fun o e => hk a (by simp) o e⟩,
        fun j s Q E hj st _ => absurd hj (by rw [st.1]; exact Nat.lt_irrefl _), fun s Q E st hE => wpAny_nextOf_tuple_end hh st.2.1 st.2.2 none_ hE⟩
    obtain ⟨f0, f1, f2, f3, f4, f5⟩ := hf it (by simp)
    exact wpAny_pyNext_enum_endD D he ⟨rfl, hit, p⟩ fun h' eb => ⟨rfl, I.turned (t' := s.toks) (fun b o hb q => eb b o hb q) f0 f1 f3 f4 f5⟩
  self := fun A i s Q E ⟨⟨_, he⟩, _⟩ h => wpAny_pyIter_enum he h
def iEnumK (K : PySem.W.Frag) (ta : TA) : TI := fun σ H R => ta σ H fun vs H1 => ∃ a xs, vs = [.ref a] ∧ ((SqL K H1 a xs ∧ R (Ite K a) H1) ∨ (SqT K H1 a xs ∧ R (IteT K a) H1))
theorem pi_enumK {X : Cx} {e : Expr} {ta : TA} {p pos tpos : Pos} {elts : List Expr} {kk : Nat} (hg : Gl X "enumerate") (hm : X.mg "enumerate" = none) (ha : PA X [e] ta) (hs : starEach [e] X.env = [(false, eval e X.env)] := by rfl) :
    PI X (.Tuple elts kk tpos) (.Call (.Name "enumerate" p) [e] [] pos) (iEnumK X.K ta) := by
  refine ⟨fun pins s σ H R I h => ?_⟩
  refine Call_ (ld_blt I hg hm boot_enumerate (PyProof.Rows.callWith_type1 (thn (ha.run pos pins s σ H _ I h) fun us s1 ⟨vs, H1, I1, r1, a, xs, ex, q1⟩ => ?_) hs rfl))
  subst ex
  obtain ⟨u, rfl, ru⟩ := vals1 r1
  obtain rfl : u = Value.ref a := ru
  have fp : ∀ b ∈ [s1.heap.objs.size + 1, s1.heap.objs.size], FpOk X pins H1 b := fun b hb => by
    have le : s1.heap.objs.size ≤ b := by
      rcases (show b = s1.heap.objs.size + 1 ∨ b = s1.heap.objs.size by simpa using hb) with z | z
      · rw [z]; exact Nat.le_add_right _ _
      · rw [z]; exact Nat.le_refl _
    exact I1.fpOk le (I1.hok.fresh le)
  rcases q1 with ⟨hq, q⟩ | ⟨hq, q⟩
  · obtain ⟨its, rv, pl, hz⟩ := I1.list hq
    refine call_enumerate_list pl.isList fun h' he hit hsz hk => wpAny_pyIter_enum he ?_
    have I2 : Inv X pins σ H1 { s1 with heap := h' } := I1.kept (t' := s1.toks) hk
    exact ⟨s1.heap.objs.size + 1, [s1.heap.objs.size + 1, s1.heap.objs.size], _, _, H1, rfl, I2, turn_enum a (s1.heap.objs.size + 1) s1.heap.objs.size, ⟨⟨.none, he⟩, hit, Nat.succ_ne_self _⟩, fp, q⟩
  · obtain ⟨its, rv, pt, hz⟩ := I1.tuple hq
    have la : a < s1.heap.objs.size := by obtain ⟨o, ho, _⟩ := pt; exact Heap.lt_size ho
    refine call_enum1 (begins_tuple a its.toArray) pt fun h' he hit hsz hk => wpAny_pyIter_enum he ?_
    have I2 : Inv X pins σ H1 { s1 with heap := h' } := I1.kept (t' := s1.toks) hk
    exact ⟨s1.heap.objs.size + 1, [s1.heap.objs.size + 1, s1.heap.objs.size], _, _, H1, rfl, I2, turn_enumT a (s1.heap.objs.size + 1) s1.heap.objs.size,
      ⟨⟨.none, he⟩, ⟨_, hit, rfl, rfl⟩, Nat.succ_ne_self _, Nat.ne_of_lt (Nat.lt_succ_of_lt la), Nat.ne_of_lt la⟩, fp, q⟩
section
variable {X : Cx} {T : Gt} {W : WX}
def iEnumA (a : Den) : IDen := fun ε S => (a ε S).bind fun d S => match d with
  | .tup xs => .ok (fun _ => some (numbered 0 xs)) S
  | d => match litems S d with
    | some _ => .ok (fun S => (litems S d).map (numbered 0)) S
    | none => .bad
theorem pid_enumA {e : Expr} {a : Den} {p pos tpos : Pos} {elts : List Expr} {kk : Nat} (hg : Gl X "enumerate") (hm : X.mg "enumerate" = none) (ha : PE X e (tD (gx X T) W a)) (hst : starEach [e] X.env = [(false, eval e X.env)] := by rfl) :
    PI X (.Tuple elts kk tpos) (.Call (.Name "enumerate" p) [e] [] pos) (tIt (gx X T) W (iEnumA a)) :=
  (pi_enumK hg hm (pa_cons ha pa_nil hst) hst).imp fun σ H Q ⟨ε, μ, S, sr, hs, h⟩ => ⟨ε, μ, S, sr, hs, (wR.bind (Rl := rlV (gx X T)) sr h).imp fun v H1 ⟨d, μ1, S1, g1, hs1, sr1, r1, h1⟩ => by
    split at h1
    · rename_i ds
      have r2 : RV X.K μ1 H1 v (.tup ds) := r1
      cases r2 with
      | tup t bt rs =>
        refine ⟨_, _, rfl, .inr ⟨t.sq, wR.here hs1 h1 ?_⟩⟩
        intro i μ' H' S' es g hs' e
        cases e
        have t2 := TupA.monoI g.i t
        have rs2 := RVs.mono g rs
        refine ⟨fun hn => ⟨_, t2.sq, ?_⟩, fun d hd => ?_⟩
        · rw [numbered_at, Option.map_eq_none_iff] at hn
          rw [RVs.length rs2]
          exact List.getElem?_eq_none_iff.mp hn
        · rw [numbered_at] at hd
          obtain ⟨x, hx, rfl⟩ := Option.map_eq_some_iff.mp hd
          obtain ⟨x', hx', rx⟩ := RVs.get rs2 hx
          refine ⟨⟨_, x', t2.sq, hx'⟩, fun z H'' ⟨p, x2, ez, hp, eh, k1⟩ => ?_⟩
          rw [k1 _ t2.sq] at hx'
          cases hx'
          subst ez eh
          have q := pair_new hs' hp (RV.int (K := X.K) (μ := μ') (H := H') (i : Int)) rx rfl
          rw [show (0 + i : Nat) = i by omega]
          exact q
    · split at h1
      · obtain ⟨a, xs, rfl, hq, rs⟩ := litems_of hs1 r1 ‹_›
        refine ⟨a, xs, rfl, .inl ⟨hq, wR.here hs1 h1 ?_⟩⟩
        intro i μ' H' S' ds g hs' e
        obtain ⟨ds0, e0, rfl⟩ := Option.map_eq_some_iff.mp e
        obtain ⟨_, us, e1, q1, rs1⟩ := litems_of hs' (RV.mono g r1) e0
        cases e1
        refine ⟨fun hn => ⟨us, q1, ?_⟩, fun d hd => ?_⟩
        · rw [numbered_at, Option.map_eq_none_iff] at hn
          rw [RVs.length rs1]
          exact List.getElem?_eq_none_iff.mp hn
        · rw [numbered_at] at hd
          obtain ⟨x, hx, rfl⟩ := Option.map_eq_some_iff.mp hd
          obtain ⟨x', hx', rx⟩ := RVs.get rs1 hx
          refine ⟨⟨us, x', q1, hx'⟩, fun z H'' ⟨p, x2, ez, hp, eh, k1⟩ => ?_⟩
          rw [k1 _ q1] at hx'
          cases hx'
          subst ez eh
          have q := pair_new hs' hp (RV.int (K := X.K) (μ := μ') (H := H') (i : Int)) rx rfl
          rw [show (0 + i : Nat) = i by omega]
          exact q
      · exact h1.elim⟩
end
end DL

set_option Elab.async false
set_option linter.all false
set_option maxRecDepth 100000
set_option maxHeartbeats 1000000
namespace DL
open PySem L2
variable {X : Cx} {T : Gt} {W : WX}
def textsOf : D → Option (List Str)
  | .tup ds => fall strD ds
  | _ => none
def firstAt (z : Str) : List Str → Option Nat
  | [] => none
  | y :: r => if y = z then some 0 else (firstAt z r).map (· + 1)
theorem firstAt_spec {z : Str} : ∀ {ks : List Str} {j : Nat}, firstAt z ks = some j → ks[j]? = some z ∧ ∀ m, m < j → ks[m]? ≠ some z
  | [], _, h => nomatch h
  | y :: r, j, h => by
    unfold firstAt at h
    split at h
    · rename_i e
      cases h
      exact ⟨by rw [e]; rfl, fun m hm => absurd hm (Nat.not_lt_zero _)⟩
    · rename_i e
      obtain ⟨i, hi, rfl⟩ := Option.map_eq_some_iff.mp h
      obtain ⟨h1, h2⟩ := firstAt_spec hi
      refine ⟨by simpa using h1, fun m hm => ?_⟩
      cases m with
      | zero => simpa using e
      | succ m => simpa using h2 m (by omega)
def dIdxT (a b : Den) : Den := fun ε S => (a ε S).bind fun d S => match textsOf d with
  | some ks => (b ε S).bind fun e S => (match e with
    | .str z => (match firstAt z ks with
      | some j => .ok (.int (j : Nat)) S
      | none => .bad)
    | _ => .bad)
  | none => .bad
theorem txts_map : ∀ ks : List Str, txts (ks.map D.str) = true
  | [] => rfl
  | _ :: ks => txts_map ks
theorem texts_of {F : PySem.W.Frag} {μ : List Addr} {H : Hp} {v : V} {d : D} {ks : List Str} (r : RV F μ H v d) (e : textsOf d = some ks) : d = unK ks ∧ ∃ p, v = .ref p ∧ SqT F H p (ks.map V.str) ∧ BareA H p (ks.map V.str) := by
  cases d with
  | tup ds =>
    have e' : fall strD ds = some ks := e
    have := fall_strs e'
    subst this
    refine ⟨rfl, ?_⟩
    cases r with
    | tup t b rs =>
      have ex := rs.strs
      subst ex
      exact ⟨_, rfl, t.sq, b (txts_map ks)⟩
  | _ => cases e
theorem bare_is {pins : List (Addr × Obj)} {σ : L2.St} {H : Hp} {s : Shared} {p : Addr} {xs : List V} (I : Inv X pins σ H s) (h : BareA H p xs) : s.TypeIs (.ref p) "tuple" ∧ ∀ a, Value.ref p = .ref a → ∃ ob, s.heap.get? a = some ob ∧ ob.dict = none := by
  obtain ⟨o, e, d⟩ := h
  obtain ⟨h1, _, its, _, o', h2, hc, _⟩ := I.hok p _ e
  obtain rfl := Option.some.inj (h1.symm.trans h2)
  exact ⟨⟨o, h1, hc⟩, fun a q => by injection q with q; subst q; exact ⟨o, h1, d⟩⟩
theorem pd_idxT {o e : Expr} {a b : Den} {apos cpos : Pos} (ha : PE X o (tD (gx X T) W a)) (hb : PE X e (tD (gx X T) W b)) (hst : starEach [e] X.env = (false, eval e X.env) :: starEach [] X.env := by rfl)
    (hbase : attributeBase o "index" X.env (eval o X.env) = eval o X.env := by rfl)
    (hfew : ((backTo cpos (starEach [e] X.env)).all (fun x => !x.1) && (backToKw cpos (keywordEach [] X.env)).all (fun x => x.1.isSome)
      && decide (([e] : List Expr).length + ([] : List Keyword).length + (if ([] : List Keyword).isEmpty then 0 else 1) < 30)) = true := by rfl)
    (hline : (apos.endLine == cpos.line) = true := by rfl) (hplain : (backTo cpos (starEach [] X.env)).any (·.1) = false := by rfl) :
    PE X (.Call (.Attribute o "index" apos) [e] [] cpos) (tD (gx X T) W (dIdxT a b)) := by
  refine ⟨fun pins s σ H Q I ⟨ε, μ, S, sr, hs, h⟩ => ?_⟩
  refine wpAny_Call_method_late hbase hfew hline rfl (thn (ha.run pins s σ H _ I ⟨ε, μ, S, sr, hs, wR.bind (Rl := rlV (gx X T)) sr h⟩) fun v s1 ⟨x, H1, I1, r1, d, μ1, S1, g1, hs1, sr1, rd, h1⟩ => ?_)
  split at h1
  · rename_i ks hk
    obtain ⟨ed, p, rfl, sq, bare⟩ := texts_of rd hk
    obtain rfl : v = Value.ref p := r1
    obtain ⟨t1, t2⟩ := bare_is I1 bare
    refine ⟨"tuple", "tuple.index", PySem.F.plainAttrs_tuple, PySem.F.slot_tuple_index, PySem.F.type_tuple_index, t1, t2, ?_⟩
    have hA := (pa_cons hb pa_nil hst).run cpos pins s1 σ H1 (fun vs H2 => ∃ z j, vs = [.str z] ∧ SqT X.K H2 p (ks.map V.str) ∧ firstAt z ks = some j ∧ Q (.int (j : Nat)) H2) I1
      (show tD (gx X T) W b σ H1 fun x H2 => ∃ z j, [x] = [V.str z] ∧ SqT X.K H2 p (ks.map V.str) ∧ firstAt z ks = some j ∧ Q (.int (j : Nat)) H2 from ⟨ε, μ1, S1, sr1, hs1, (wR.bind (Rl := rlV (gx X T)) sr1 h1).imp fun w H2 ⟨e2, μ2, S2, g2, hs2, sr2, r2, h2⟩ => by
        have rd2 := RV.mono g2 rd
        obtain ⟨_, p', e', sq2, _⟩ := texts_of rd2 hk
        cases e'
        split at h2
        · split at h2
          · rename_i j hj
            have r3 : RV X.K μ2 H2 w (.str _) := r2
            cases r3
            exact ⟨_, j, rfl, sq2, hj, wR.here hs2 h2 (.int _)⟩
          · exact h2.elim
        · exact h2.elim⟩)
    rw [hst] at hA ⊢
    refine Calls.callWith_builtin (by show (false || (backTo cpos (starEach [] X.env)).any (·.1)) = false; rw [hplain] <;> rfl) (Calls.evalArgs_plain ?_)
    exact thn hA fun us s2 ⟨vs, H2, I2, r2, z, j, ev, sq2, hj, q⟩ => by
      subst ev
      obtain ⟨f1, f2⟩ := firstAt_spec hj
      exact mt_tup_index pins s2 σ H2 (.ref p) [.str z] (.ref p) us Q I2 rfl r2 ⟨p, ks, z, j, rfl, rfl, sq2, f1, f2, q⟩
  · exact h1.elim
end DL

set_option Elab.async false
set_option linter.all false
set_option maxRecDepth 100000
set_option maxHeartbeats 1000000
namespace DL
open PySem L2
open KS (Kd Reads Takes Cmps Ord rise Rising kT kV tLt sLt iLt)
section
end
end DL

set_option Elab.async false
set_option linter.all false
namespace DL
open PySem L2 DL
inductive CF where
  | f_parts_of
  | f__law_cell
  | f__law_drawn
  | f__law_leaf
  | f__law_deed
  | f__law_call
  | f__law_rules
  | f__law_weight
  | f__law_light
  | m_Run_touch
  | m_Run_worth
  | m_Run_at_shelf
  | m_Run_with_names
  | m_Run_put_together
  | m_World_touched
  | f_marks_of
  | f_once
  | f_call_marks
  | f_touches
  | f__law_marks
  | f_is_met
  | f_clash
  | f_may_go
  | f__law_clash
  | f_all_may_go
  | f_clashing
  | f_goes_twice
def b_f_parts_of (c c2 : CF → Fn) : SDen :=
    (sSeq (sIf (dTest (dBin oEq (dBin oGet (dVar 0) (dC (.int 0))) (dC (.str "call")))) (sRet (dFn fList (dCons (dBin oAdd (dBin oGet (dVar 0) (dC (.int 2))) (dBin oGet (dVar 0) (dC (.int 3)))) dNil))) sNil)
    (sRet (dLc (iAny (dSl (dVar 0) (dPart (dC (.int 1))) dNoPart)) (gN 1) (dTest (dIsi "tuple" (dVar 1))) (dVar 1) [1])))
def b_f__law_cell (c c2 : CF → Fn) : SDen :=
    (sSeq (sIf (dTest (dBin oEq (dVar 0) (dLst dNil))) (sRet (dBin oMul (dC (.int 7)) (dVar 1))) sNil)
    (sRet (dBin oAdd (dBin oGet (dVar 0) (dBin oMod (dVar 1) (dFn fLen (dCons (dVar 0) dNil)))) (dBin oMul (dC (.int 6553)) (dBin oDiv (dVar 1) (dFn fLen (dCons (dVar 0) dNil)))))))
def b_f__law_drawn (c c2 : CF → Fn) : SDen :=
    (sSeq (sAsg (dBin oMod (dBin oAdd (dBin oMul (dBin oMod (dCall 2 (c .f__law_cell) (dCons (dVar 0) (dCons (dVar 1) dNil))) (dC (.int 2147483563))) (dC (.int 69069))) (dBin oMul (dC (.int 104723)) (dBin oAdd (dVar 1) (dC (.int 1))))) (dC (.int 2147483563))) (gN 3))
    (sSeq (sAsg (dBin oMod (dBin oAdd (dBin oMul (dVar 3) (dVar 3)) (dBin oDiv (dVar 3) (dC (.int 3)))) (dC (.int 2147483399))) (gN 3))
    (sRet (dBin oMod (dBin oDiv (dBin oMod (dBin oAdd (dBin oMul (dVar 3) (dVar 3)) (dBin oDiv (dVar 3) (dC (.int 7)))) (dC (.int 2147483647))) (dC (.int 11))) (dVar 2)))))
def b_f__law_leaf (c c2 : CF → Fn) : SDen :=
    (sSeq (sAsg (dVar 2) (gT 3 (gsCons (gN 3) (gsCons (gN 4) (gsCons (gN 5) gsNil)))))
    (sSeq (sAsg (dCall 3 (c .f__law_drawn) (dCons (dVar 0) (dCons (dVar 1) (dCons (dC (.int 8)) dNil)))) (gN 6))
    (sSeq (sIf (dTest (dBin oLt (dVar 6) (dC (.int 2)))) (sRet (dTup (dCons (dC (.str "number")) (dCons (dBin oGet (dLst (dCons (dC (.int 0)) (dCons (dC (.int 1)) (dCons (dC (.int 2)) (dCons (dC (.int 3)) (dCons (dC (.int 7)) (dCons (dC (.int 1008)) dNil))))))) (dCall 3 (c .f__law_drawn) (dCons (dVar 0) (dCons (dBin oAdd (dVar 1) (dC (.int 1))) (dCons (dC (.int 6)) dNil))))) dNil)))) sNil)
    (sSeq (sIf (bAnd (dTest (dBin oEq (dVar 6) (dC (.int 2)))) (dTest (dBin oNe (dVar 3) (dTup dNil)))) (sRet (dTup (dCons (dC (.str "name")) (dCons (dBin oGet (dVar 3) (dCall 3 (c .f__law_drawn) (dCons (dVar 0) (dCons (dBin oAdd (dVar 1) (dC (.int 1))) (dCons (dFn fLen (dCons (dVar 3) dNil)) dNil))))) dNil)))) sNil)
    (sSeq (sIf (bAnd (dTest (dBin oEq (dVar 6) (dC (.int 3)))) (dTest (dBin oNe (dVar 5) (dTup dNil)))) (sRet (dTup (dCons (dC (.str "do")) (dCons (dBin oGet (dVar 5) (dCall 3 (c .f__law_drawn) (dCons (dVar 0) (dCons (dBin oAdd (dVar 1) (dC (.int 1))) (dCons (dFn fLen (dCons (dVar 5) dNil)) dNil))))) dNil)))) sNil)
    (sSeq (sIf (dTest (dBin oEq (dVar 6) (dC (.int 4)))) (sRet (dTup (dCons (dC (.str "ask")) dNil))) sNil)
    (sSeq (sAsg (dBin oAdd (dTup (dCons (dC (.str "a")) (dCons (dC (.str "b")) (dCons (dC (.str "c")) (dCons (dC (.str "d")) dNil))))) (dBin oMul (dVar 4) (dC (.int 3)))) (gN 7))
    (sRet (dTup (dCons (dC (.str "read")) (dCons (dBin oGet (dVar 7) (dCall 3 (c .f__law_drawn) (dCons (dVar 0) (dCons (dBin oAdd (dVar 1) (dC (.int 1))) (dCons (dFn fLen (dCons (dVar 7) dNil)) dNil))))) dNil)))))))))))
def b_f__law_deed (c c2 : CF → Fn) : SDen :=
    (sSeq (sAsg (dCall 3 (c .f__law_drawn) (dCons (dVar 0) (dCons (dVar 1) (dCons (dC (.int 15)) dNil)))) (gN 5))
    (sSeq (sIf (bOr (dTest (dBin oEq (dVar 2) (dC (.int 0)))) (dTest (dBin oLt (dVar 5) (dC (.int 2))))) (sRet (dCall 3 (c .f__law_leaf) (dCons (dVar 0) (dCons (dBin oAdd (dVar 1) (dC (.int 1))) (dCons (dVar 3) dNil))))) sNil)
    (sSeq (sIf (bAnd (dTest (dBin oLt (dVar 5) (dC (.int 4)))) (dTest (dBin oNe (dVar 4) (dTup dNil)))) (sRet (dCall 5 (c .f__law_call) (dCons (dVar 0) (dCons (dVar 1) (dCons (dVar 2) (dCons (dVar 3) (dCons (dVar 4) dNil))))))) sNil)
    (sSeq (sAsg (dCall 5 (c .f__law_deed) (dCons (dVar 0) (dCons (dBin oAdd (dBin oMul (dVar 1) (dC (.int 3))) (dC (.int 7))) (dCons (dBin oSub (dVar 2) (dC (.int 1))) (dCons (dVar 3) (dCons (dVar 4) dNil)))))) (gN 6))
    (sSeq (sIf (dTest (dBin oLt (dVar 5) (dC (.int 6)))) (sSeq (sAsg (dBin oAdd (dTup (dCons (dC (.str "a")) (dCons (dC (.str "b")) (dCons (dC (.str "c")) (dCons (dC (.str "d")) dNil))))) (dBin oMul (dBin oGet (dVar 3) (dC (.int 1))) (dC (.int 3)))) (gN 7))
    (sRet (dTup (dCons (dC (.str "write")) (dCons (dBin oGet (dVar 7) (dCall 3 (c .f__law_drawn) (dCons (dVar 0) (dCons (dBin oAdd (dVar 1) (dC (.int 3))) (dCons (dFn fLen (dCons (dVar 7) dNil)) dNil))))) (dCons (dVar 6) dNil)))))) sNil)
    (sSeq (sIf (dTest (dBin oEq (dVar 5) (dC (.int 6)))) (sRet (dTup (dCons (dC (.str "say")) (dCons (dVar 6) dNil)))) sNil)
    (sSeq (sIf (dTest (dBin oEq (dVar 5) (dC (.int 7)))) (sSeq (sAsg (dBin oGet (dLst (dCons (dC (.str "x")) (dCons (dC (.str "y")) (dCons (dC (.str "x1")) dNil)))) (dCall 3 (c .f__law_drawn) (dCons (dVar 0) (dCons (dBin oAdd (dVar 1) (dC (.int 3))) (dCons (dC (.int 3)) dNil))))) (gN 8))
    (sRet (dTup (dCons (dC (.str "let")) (dCons (dVar 8) (dCons (dVar 6) (dCons (dCall 5 (c .f__law_deed) (dCons (dVar 0) (dCons (dBin oAdd (dBin oMul (dVar 1) (dC (.int 3))) (dC (.int 23))) (dCons (dBin oSub (dVar 2) (dC (.int 1))) (dCons (dBin oAdd (dTup (dCons (dBin oAdd (dBin oGet (dVar 3) (dC (.int 0))) (dTup (dCons (dVar 8) dNil))) dNil)) (dSl (dVar 3) (dPart (dC (.int 1))) dNoPart)) (dCons (dVar 4) dNil)))))) dNil))))))) sNil)
    (sSeq (sIf (dTest (dBin oEq (dVar 5) (dC (.int 8)))) (sSeq (sAsg (dBin oGet (dLst (dCons (dC (.str "p")) (dCons (dC (.str "q")) dNil))) (dCall 3 (c .f__law_drawn) (dCons (dVar 0) (dCons (dBin oAdd (dVar 1) (dC (.int 3))) (dCons (dC (.int 2)) dNil))))) (gN 8))
    (sSeq (sAsg (dTup (dCons (dBin oGet (dVar 3) (dC (.int 0))) (dCons (dBin oAdd (dBin oGet (dVar 3) (dC (.int 1))) (dTup (dCons (dVar 8) dNil))) (dCons (dBin oGet (dVar 3) (dC (.int 2))) dNil)))) (gN 9))
    (sRet (dTup (dCons (dC (.str "own")) (dCons (dVar 8) (dCons (dVar 6) (dCons (dCall 5 (c .f__law_deed) (dCons (dVar 0) (dCons (dBin oAdd (dBin oMul (dVar 1) (dC (.int 3))) (dC (.int 23))) (dCons (dBin oSub (dVar 2) (dC (.int 1))) (dCons (dVar 9) (dCons (dVar 4) dNil)))))) dNil)))))))) sNil)
    (sSeq (sAsg (dCall 5 (c .f__law_deed) (dCons (dVar 0) (dCons (dBin oAdd (dBin oMul (dVar 1) (dC (.int 3))) (dC (.int 41))) (dCons (dBin oSub (dVar 2) (dC (.int 1))) (dCons (dVar 3) (dCons (dVar 4) dNil)))))) (gN 10))
    (sSeq (sIf (dTest (dBin oEq (dVar 5) (dC (.int 9)))) (sRet (dTup (dCons (dC (.str "if")) (dCons (dVar 6) (dCons (dVar 10) (dCons (dCall 5 (c .f__law_deed) (dCons (dVar 0) (dCons (dBin oAdd (dBin oMul (dVar 1) (dC (.int 3))) (dC (.int 61))) (dCons (dBin oSub (dVar 2) (dC (.int 1))) (dCons (dVar 3) (dCons (dVar 4) dNil)))))) dNil)))))) sNil)
    (sRet (dBin oAdd (dBin oGet (dLst (dCons (dTup (dCons (dC (.str "then")) dNil)) (dCons (dTup (dCons (dC (.str "add")) dNil)) (dCons (dTup (dCons (dC (.str "less")) dNil)) (dCons (dTup (dCons (dC (.str "loop")) dNil)) (dCons (dTup (dCons (dC (.str "then")) dNil)) dNil)))))) (dBin oSub (dVar 5) (dC (.int 10)))) (dTup (dCons (dVar 6) (dCons (dVar 10) dNil)))))))))))))))
def b_f__law_call (c c2 : CF → Fn) : SDen :=
    (sSeq (sAsg (dCall 3 (c .f__law_drawn) (dCons (dVar 0) (dCons (dBin oAdd (dVar 1) (dC (.int 3))) (dCons (dFn fLen (dCons (dVar 4) dNil)) dNil)))) (gN 5))
    (sSeq (sAsg (dFn fLen (dCons (dBin oGet (dBin oGet (dVar 4) (dVar 5)) (dC (.int 0))) dNil)) (gN 6))
    (sSeq (sAsg (dLst dNil) (gN 7))
    (sSeq (sFor (iRange1 (dBin oAdd (dVar 6) (dFn fLen (dCons (dBin oGet (dBin oGet (dVar 4) (dVar 5)) (dC (.int 1))) dNil)))) (gN 8) (sExpr (dAppend (dVar 7) (dCall 5 (c .f__law_deed) (dCons (dVar 0) (dCons (dBin oAdd (dBin oAdd (dBin oMul (dVar 1) (dC (.int 3))) (dC (.int 7))) (dBin oMul (dC (.int 5)) (dVar 8))) (dCons (dBin oSub (dVar 2) (dC (.int 1))) (dCons (dVar 3) (dCons (dVar 4) dNil)))))))))
    (sRet (dTup (dCons (dC (.str "call")) (dCons (dVar 5) (dCons (dFn fTuple (dCons (dSl (dVar 7) dNoPart (dPart (dVar 6))) dNil)) (dCons (dFn fTuple (dCons (dSl (dVar 7) (dPart (dVar 6)) dNoPart) dNil)) dNil))))))))))
def b_f__law_rules (c c2 : CF → Fn) : SDen :=
    (sSeq (sAsg (dTup dNil) (gN 2))
    (sSeq (sFor (iRange1 (dCall 3 (c .f__law_drawn) (dCons (dVar 0) (dCons (dVar 1) (dCons (dC (.int 3)) dNil))))) (gN 3) (sSeq (sAsg (dBin oGet (dLst (dCons (dTup dNil) (dCons (dTup (dCons (dC (.str "x")) dNil)) (dCons (dTup (dCons (dC (.str "y")) (dCons (dC (.str "x")) dNil))) dNil)))) (dCall 3 (c .f__law_drawn) (dCons (dVar 0) (dCons (dBin oAdd (dBin oAdd (dVar 1) (dC (.int 1))) (dBin oMul (dC (.int 5)) (dVar 3))) (dCons (dC (.int 3)) dNil))))) (gN 4))
    (sSeq (sAsg (dBin oGet (dLst (dCons (dTup dNil) (dCons (dTup (dCons (dC (.str "f")) dNil)) (dCons (dTup (dCons (dC (.str "f")) (dCons (dC (.str "g1")) dNil))) dNil)))) (dCall 3 (c .f__law_drawn) (dCons (dVar 0) (dCons (dBin oAdd (dBin oAdd (dVar 1) (dC (.int 2))) (dBin oMul (dC (.int 5)) (dVar 3))) (dCons (dC (.int 3)) dNil))))) (gN 5))
    (sSeq (sAsg (dCall 5 (c .f__law_deed) (dCons (dVar 0) (dCons (dBin oAdd (dBin oAdd (dVar 1) (dC (.int 20))) (dBin oMul (dC (.int 7)) (dVar 3))) (dCons (dC (.int 2)) (dCons (dTup (dCons (dVar 4) (dCons (dTup dNil) (dCons (dVar 5) dNil)))) (dCons (dVar 2) dNil)))))) (gN 6))
    (sAsg (dBin oAdd (dVar 2) (dTup (dCons (dTup (dCons (dVar 4) (dCons (dVar 5) (dCons (dVar 6) dNil)))) dNil))) (gN 2))))))
    (sRet (dVar 2))))
def b_f__law_weight (c c2 : CF → Fn) : SDen :=
    (sSeq (sAsg (dBin oGet (dVar 1) (dC (.int 0))) (gN 3))
    (sSeq (sIf (dTest (dBin oIn (dVar 3) (dTup (dCons (dC (.str "number")) (dCons (dC (.str "name")) (dCons (dC (.str "ask")) (dCons (dC (.str "read")) dNil))))))) (sRet (dC (.int 1))) sNil)
    (sSeq (sIf (dTest (dBin oEq (dVar 3) (dC (.str "do")))) (sRet (dGet2 (dVar 2) (dBin oGet (dVar 1) (dC (.int 1))) (dC (.int 1)))) sNil)
    (sSeq (sIf (dTest (dBin oEq (dVar 3) (dC (.str "call")))) (sSeq (sAsg (dFn fDict (dCons (dLc (iZipD (dBin oGet (dBin oGet (dVar 0) (dBin oGet (dVar 1) (dC (.int 1)))) (dC (.int 1))) (dBin oGet (dVar 1) (dC (.int 3)))) (gT 2 (gsCons (gN 7) (gsCons (gN 8) gsNil))) bYes (dTup (dCons (dVar 7) (dCons (dCall 3 (c .f__law_weight) (dCons (dVar 0) (dCons (dVar 8) (dCons (dVar 2) dNil)))) dNil))) [7, 8]) dNil)) (gN 4))
    (sSeq (sAsg (dFn fSum (dCons (dLc (iAny (dBin oGet (dVar 1) (dC (.int 2)))) (gN 8) bYes (dCall 3 (c .f__law_weight) (dCons (dVar 0) (dCons (dVar 8) (dCons (dVar 2) dNil)))) [8]) dNil)) (gN 5))
    (sRet (dBin oAdd (dBin oAdd (dC (.int 1)) (dVar 5)) (dCall 3 (c .f__law_weight) (dCons (dVar 0) (dCons (dBin oGet (dBin oGet (dVar 0) (dBin oGet (dVar 1) (dC (.int 1)))) (dC (.int 2))) (dCons (dVar 4) dNil)))))))) sNil)
    (sSeq (sAsg (dLc (iAny (dSl (dVar 1) (dPart (dC (.int 1))) dNoPart)) (gN 8) (dTest (dIsi "tuple" (dVar 8))) (dCall 3 (c .f__law_weight) (dCons (dVar 0) (dCons (dVar 8) (dCons (dVar 2) dNil)))) [8]) (gN 6))
    (sSeq (sIf (dTest (dBin oEq (dVar 3) (dC (.str "loop")))) (sRet (dBin oAdd (dBin oAdd (dC (.int 1)) (dBin oGet (dVar 6) (dC (.int 0)))) (dBin oMul (dC (.int 3)) (dBin oGet (dVar 6) (dC (.int 1)))))) sNil)
    (sRet (dBin oAdd (dC (.int 1)) (dFn fSum (dCons (dVar 6) dNil))))))))))
def b_f__law_light (c c2 : CF → Fn) : SDen :=
    (sSeq (sAsg (dCall 5 (c .f__law_deed) (dCons (dVar 0) (dCons (dVar 1) (dCons (dVar 2) (dCons (dTup (dCons (dTup dNil) (dCons (dTup dNil) (dCons (dTup dNil) dNil)))) (dCons (dVar 3) dNil)))))) (gN 4))
    (sSeq (sIf (dTest (dBin oGt (dCall 3 (c .f__law_weight) (dCons (dVar 3) (dCons (dVar 4) (dCons dNewK dNil)))) (dC (.int 80)))) (sRet (dTup (dCons (dC (.str "read")) (dCons (dBin oGet (dC (.str "abcd")) (dCall 3 (c .f__law_drawn) (dCons (dVar 0) (dCons (dVar 1) (dCons (dC (.int 4)) dNil))))) dNil)))) sNil)
    (sRet (dVar 4))))
def b_m_Run_touch (c c2 : CF → Fn) : SDen :=
    (sSeq (sIf (dTest (dBin oNotN (dFld "world" (dVar 0)) (dC .non))) (sRet (dMeth "World" "touched" 2 (c .m_World_touched) (dFld "world" (dVar 0)) (dCons (dVar 1) dNil))) sNil)
    (sSeq (sIf (dTest (dBin oEq (dFld "place" (dVar 0)) (dFn fLen (dCons (dFld "answers" (dVar 0)) dNil)))) (sSeq (sFldD "wanted" (dVar 1) (dVar 0))
    (sRaise "Pause")) sNil)
    (sSeq (sFldD "place" (dBin oAdd (dFld "place" (dVar 0)) (dC (.int 1))) (dVar 0))
    (sRet (dBin oGet (dFld "answers" (dVar 0)) (dBin oSub (dFld "place" (dVar 0)) (dC (.int 1))))))))
def b_m_Run_worth (c c2 : CF → Fn) : SDen :=
    (sSeq (sAsg (dBin oGet (dVar 1) (dC (.int 0))) (gN 3))
    (sSeq (sIf (dTest (dBin oEq (dVar 3) (dC (.str "number")))) (sRet (dBin oGet (dVar 1) (dC (.int 1)))) sNil)
    (sSeq (sIf (dTest (dBin oEq (dVar 3) (dC (.str "name")))) (sRet (dBin oGet (dVar 2) (dBin oGet (dVar 1) (dC (.int 1))))) sNil)
    (sSeq (sIf (dTest (dBin oIn (dVar 3) (dTup (dCons (dC (.str "read")) (dCons (dC (.str "write")) dNil))))) (sRet (dMeth "Run" "at_shelf" 3 (c .m_Run_at_shelf) (dVar 0) (dCons (dVar 1) (dCons (dVar 2) dNil)))) sNil)
    (sSeq (sIf (dTest (dBin oEq (dVar 3) (dC (.str "ask")))) (sRet (dMeth "Run" "touch" 2 (c .m_Run_touch) (dVar 0) (dCons (dTup (dCons (dC (.str "ask")) dNil)) dNil))) sNil)
    (sSeq (sIf (dTest (dBin oEq (dVar 3) (dC (.str "say")))) (sRet (dMeth "Run" "touch" 2 (c .m_Run_touch) (dVar 0) (dCons (dTup (dCons (dC (.str "say")) (dCons (dMeth "Run" "worth" 3 (c .m_Run_worth) (dVar 0) (dCons (dBin oGet (dVar 1) (dC (.int 1))) (dCons (dVar 2) dNil))) dNil))) dNil))) sNil)
    (sSeq (sIf (dTest (dBin oEq (dVar 3) (dC (.str "do")))) (sSeq (sAsg (dBin oGet (dVar 2) (dBin oGet (dVar 1) (dC (.int 1)))) (gT 2 (gsCons (gN 4) (gsCons (gN 5) gsNil))))
    (sRet (dMeth "Run" "worth" 3 (c .m_Run_worth) (dVar 0) (dCons (dVar 4) (dCons (dVar 5) dNil))))) sNil)
    (sSeq (sIf (dTest (dBin oIn (dVar 3) (dTup (dCons (dC (.str "call")) (dCons (dC (.str "let")) (dCons (dC (.str "own")) dNil)))))) (sRet (dMeth "Run" "with_names" 3 (c .m_Run_with_names) (dVar 0) (dCons (dVar 1) (dCons (dVar 2) dNil)))) sNil)
    (sRet (dMeth "Run" "put_together" 3 (c .m_Run_put_together) (dVar 0) (dCons (dVar 1) (dCons (dVar 2) dNil))))))))))))
def b_m_Run_at_shelf (c c2 : CF → Fn) : SDen :=
    (sSeq (sAsg (dGet2 (dVar 2) (dBin oGet (dVar 1) (dC (.int 1))) (dBin oGet (dVar 1) (dC (.int 1)))) (gN 3))
    (sSeq (sIf (dTest (dBin oEq (dBin oGet (dVar 1) (dC (.int 0))) (dC (.str "read")))) (sRet (dIf (dTest (dIsi "str" (dVar 3))) (dMeth "Run" "touch" 2 (c .m_Run_touch) (dVar 0) (dCons (dTup (dCons (dC (.str "read")) (dCons (dVar 3) dNil))) dNil)) (dBin oGet (dFld "cells" (dVar 0)) (dVar 3)))) sNil)
    (sSeq (sAsg (dMeth "Run" "worth" 3 (c .m_Run_worth) (dVar 0) (dCons (dBin oGet (dVar 1) (dC (.int 2))) (dCons (dVar 2) dNil))) (gN 4))
    (sSeq (sIf (dTest (dIsi "str" (dVar 3))) (sRet (dMeth "Run" "touch" 2 (c .m_Run_touch) (dVar 0) (dCons (dTup (dCons (dC (.str "write")) (dCons (dVar 3) (dCons (dVar 4) dNil)))) dNil))) sNil)
    (sSeq (sPut (dFld "cells" (dVar 0)) (dVar 3) (dVar 4))
    (sRet (dVar 4)))))))
def b_m_Run_with_names (c c2 : CF → Fn) : SDen :=
    (sSeq (sIf (dTest (dBin oEq (dBin oGet (dVar 1) (dC (.int 0))) (dC (.str "call")))) (sSeq (sAsg (dBin oGet (dFld "rules" (dVar 0)) (dBin oGet (dVar 1) (dC (.int 1)))) (gT 3 (gsCons (gN 3) (gsCons (gN 4) (gsCons (gN 5) gsNil)))))
    (sSeq (sAsg (dFn fDict (dCons (dLc (iZipD (dVar 3) (dBin oGet (dVar 1) (dC (.int 2)))) (gT 2 (gsCons (gN 8) (gsCons (gN 9) gsNil))) bYes (dTup (dCons (dVar 8) (dCons (dMeth "Run" "worth" 3 (c .m_Run_worth) (dVar 0) (dCons (dVar 9) (dCons (dVar 2) dNil))) dNil))) [8, 9]) dNil)) (gN 6))
    (sSeq (sExpr (dUpd (dVar 6) (dFn fDict (dCons (dLc (iZipD (dVar 4) (dBin oGet (dVar 1) (dC (.int 3)))) (gT 2 (gsCons (gN 8) (gsCons (gN 9) gsNil))) bYes (dTup (dCons (dVar 8) (dCons (dTup (dCons (dVar 9) (dCons (dVar 2) dNil))) dNil))) [8, 9]) dNil))))
    (sRet (dMeth "Run" "worth" 3 (c .m_Run_worth) (dVar 0) (dCons (dVar 5) (dCons (dVar 6) dNil))))))) sNil)
    (sSeq (sAsg (dMeth "Run" "worth" 3 (c .m_Run_worth) (dVar 0) (dCons (dBin oGet (dVar 1) (dC (.int 2))) (dCons (dVar 2) dNil))) (gN 7))
    (sSeq (sAsg (dFn fDict (dCons (dVar 2) dNil)) (gN 6))
    (sSeq (sPut (dVar 6) (dBin oGet (dVar 1) (dC (.int 1))) (dVar 7))
    (sSeq (sIf (dTest (dBin oEq (dBin oGet (dVar 1) (dC (.int 0))) (dC (.str "own")))) (sSeq (sExpr (dAppend (dFld "cells" (dVar 0)) (dVar 7)))
    (sPut (dVar 6) (dBin oGet (dVar 1) (dC (.int 1))) (dBin oSub (dFn fLen (dCons (dFld "cells" (dVar 0)) dNil)) (dC (.int 1))))) sNil)
    (sRet (dMeth "Run" "worth" 3 (c .m_Run_worth) (dVar 0) (dCons (dBin oGet (dVar 1) (dC (.int 3))) (dCons (dVar 6) dNil)))))))))
def b_m_Run_put_together (c c2 : CF → Fn) : SDen :=
    (sSeq (sAsg (dBin oGet (dVar 1) (dC (.int 0))) (gN 3))
    (sSeq (sAsg (dMeth "Run" "worth" 3 (c .m_Run_worth) (dVar 0) (dCons (dBin oGet (dVar 1) (dC (.int 1))) (dCons (dVar 2) dNil))) (gN 4))
    (sSeq (sIf (dTest (dBin oEq (dVar 3) (dC (.str "if")))) (sRet (dMeth "Run" "worth" 3 (c .m_Run_worth) (dVar 0) (dCons (dIf (dTest (dBin oNe (dVar 4) (dC (.int 0)))) (dBin oGet (dVar 1) (dC (.int 2))) (dBin oGet (dVar 1) (dC (.int 3)))) (dCons (dVar 2) dNil)))) sNil)
    (sSeq (sIf (dTest (dBin oEq (dVar 3) (dC (.str "loop")))) (sSeq (sFor (iRange1 (dBin oMod (dVar 4) (dC (.int 4)))) (gN 5) (sExpr (dMeth "Run" "worth" 3 (c .m_Run_worth) (dVar 0) (dCons (dBin oGet (dVar 1) (dC (.int 2))) (dCons (dVar 2) dNil)))))
    (sRet (dC (.int 0)))) sNil)
    (sSeq (sAsg (dMeth "Run" "worth" 3 (c .m_Run_worth) (dVar 0) (dCons (dBin oGet (dVar 1) (dC (.int 2))) (dCons (dVar 2) dNil))) (gN 6))
    (sSeq (sIf (dTest (dBin oEq (dVar 3) (dC (.str "then")))) (sRet (dVar 6)) sNil)
    (sRet (dIf (dTest (dBin oEq (dVar 3) (dC (.str "add")))) (dBin oMod (dBin oAdd (dVar 4) (dVar 6)) (dC (.int 1009))) (dFn fInt (dCons (dBin oLt (dVar 4) (dVar 6)) dNil))))))))))
def b_m_World_touched (c c2 : CF → Fn) : SDen :=
    (sSeq (sIf (dTest (dBin oEq (dBin oGet (dVar 1) (dC (.int 0))) (dC (.str "ask")))) (sSeq (sAsg (dIf (dTest (dBin oLt (dFld "many" (dVar 0)) (dFn fLen (dCons (dFld "asked" (dVar 0)) dNil)))) (dBin oGet (dFld "asked" (dVar 0)) (dFld "many" (dVar 0))) (dC (.int 0))) (gN 2))
    (sFldD "many" (dBin oAdd (dFld "many" (dVar 0)) (dC (.int 1))) (dVar 0))) (sIf (dTest (dBin oEq (dBin oGet (dVar 1) (dC (.int 0))) (dC (.str "read")))) (sAsg (dBin oGet (dFld "kept" (dVar 0)) (dBin oGet (dVar 1) (dC (.int 1)))) (gN 2)) (sAsg (dBin oGet (dVar 1) (dNeg (dC (.int 1)))) (gN 2))))
    (sSeq (sIf (dTest (dBin oEq (dBin oGet (dVar 1) (dC (.int 0))) (dC (.str "write")))) (sPut (dFld "kept" (dVar 0)) (dBin oGet (dVar 1) (dC (.int 1))) (dVar 2)) sNil)
    (sSeq (sIf (dTest (dBin oEq (dBin oGet (dVar 1) (dC (.int 0))) (dC (.str "say")))) (sExpr (dAppend (dFld "spoken" (dVar 0)) (dVar 2))) sNil)
    (sSeq (sExpr (dAppend (dFld "marks" (dVar 0)) (dIf (dTest (dBin oIn (dBin oGet (dVar 1) (dC (.int 0))) (dTup (dCons (dC (.str "write")) (dCons (dC (.str "say")) dNil))))) (dVar 1) (dBin oAdd (dVar 1) (dTup (dCons (dVar 2) dNil))))))
    (sRet (dVar 2))))))
def b_f_marks_of (c c2 : CF → Fn) : SDen :=
    (sSeq (sAsg (dBin oGet (dVar 1) (dC (.int 0))) (gN 2))
    (sSeq (sAsg (dLst dNil) (gN 3))
    (sSeq (sIf (dTest (dBin oIn (dVar 2) (dTup (dCons (dC (.str "read")) (dCons (dC (.str "write")) (dCons (dC (.str "do")) dNil)))))) (sAsg (dLst (dCons (dTup (dCons (dVar 2) (dCons (dBin oGet (dVar 1) (dC (.int 1))) dNil))) dNil)) (gN 3)) sNil)
    (sSeq (sIf (dTest (dBin oIn (dVar 2) (dTup (dCons (dC (.str "say")) (dCons (dC (.str "ask")) dNil))))) (sAsg (dLst (dCons (dTup (dCons (dVar 2) dNil)) dNil)) (gN 3)) sNil)
    (sSeq (sIf (dTest (dBin oEq (dVar 2) (dC (.str "call")))) (sRet (dCall 2 (c .f_call_marks) (dCons (dVar 0) (dCons (dVar 1) dNil)))) sNil)
    (sSeq (sIf (dTest (dBin oEq (dVar 2) (dC (.str "own")))) (sSeq (sAsg (dLc (iAny (dCall 2 (c .f_marks_of) (dCons (dVar 0) (dCons (dBin oGet (dVar 1) (dC (.int 3))) dNil)))) (gN 6) (dTest (dBin oNotIn (dVar 6) (dTup (dCons (dTup (dCons (dC (.str "read")) (dCons (dBin oGet (dVar 1) (dC (.int 1))) dNil))) (dCons (dTup (dCons (dC (.str "write")) (dCons (dBin oGet (dVar 1) (dC (.int 1))) dNil))) dNil))))) (dVar 6) [6]) (gN 4))
    (sRet (dCall 1 (c .f_once) (dCons (dBin oAdd (dCall 2 (c .f_marks_of) (dCons (dVar 0) (dCons (dBin oGet (dVar 1) (dC (.int 2))) dNil))) (dVar 4)) dNil)))) sNil)
    (sSeq (sFor (iAny (dCall 1 (c .f_parts_of) (dCons (dVar 1) dNil))) (gN 5) (sAsg (dBin oAdd (dVar 3) (dCall 2 (c .f_marks_of) (dCons (dVar 0) (dCons (dVar 5) dNil)))) (gN 3)))
    (sRet (dCall 1 (c .f_once) (dCons (dVar 3) dNil))))))))))
def b_f_once (c c2 : CF → Fn) : SDen :=
    (sRet (dSS (dVar 0)))
def b_f_call_marks (c c2 : CF → Fn) : SDen :=
    (sSeq (sAsg (dBin oGet (dVar 0) (dBin oGet (dVar 1) (dC (.int 1)))) (gT 3 (gsCons (gN 2) (gsCons (gN 3) (gsCons (gN 4) gsNil)))))
    (sSeq (sAsg (dLst dNil) (gN 5))
    (sSeq (sFor (iAny (dBin oGet (dVar 1) (dC (.int 2)))) (gN 6) (sAsg (dBin oAdd (dVar 5) (dCall 2 (c .f_marks_of) (dCons (dVar 0) (dCons (dVar 6) dNil)))) (gN 5)))
    (sSeq (sFor (iAny (dCall 2 (c .f_marks_of) (dCons (dVar 0) (dCons (dVar 4) dNil)))) (gN 7) (sIf (dTest (dBin oEq (dBin oGet (dVar 7) (dC (.int 0))) (dC (.str "do")))) (sAsg (dBin oAdd (dVar 5) (dCall 2 (c .f_marks_of) (dCons (dVar 0) (dCons (dBin oGet (dBin oGet (dVar 1) (dC (.int 3))) (dIdxT (dVar 3) (dBin oGet (dVar 7) (dC (.int 1))))) dNil)))) (gN 5)) (sExpr (dAppend (dVar 5) (dVar 7)))))
    (sRet (dCall 1 (c .f_once) (dCons (dVar 5) dNil)))))))
def b_f_touches (c c2 : CF → Fn) : SDen :=
    (sRet (dCall 2 (c .f_marks_of) (dCons (dVar 0) (dCons (dVar 1) dNil))))
def b_f__law_marks (c c2 : CF → Fn) : SDen :=
    (sSeq (sIf (dTest (dBin oEq (dBin oGet (dVar 1) (dC (.int 0))) (dC (.str "call")))) (sSeq (sAsg (dLst dNil) (gN 2))
    (sSeq (sFor (iAny (dBin oGet (dVar 1) (dC (.int 2)))) (gN 3) (sAsg (dBin oAdd (dVar 2) (dCall 2 (c .f__law_marks) (dCons (dVar 0) (dCons (dVar 3) dNil)))) (gN 2)))
    (sSeq (sFor (iAny (dCall 2 (c .f__law_marks) (dCons (dVar 0) (dCons (dBin oGet (dBin oGet (dVar 0) (dBin oGet (dVar 1) (dC (.int 1)))) (dC (.int 2))) dNil)))) (gN 4) (sIf (dTest (dBin oEq (dBin oGet (dVar 4) (dC (.int 0))) (dC (.str "do")))) (sAsg (dBin oAdd (dVar 2) (dCall 2 (c .f__law_marks) (dCons (dVar 0) (dCons (dBin oGet (dBin oGet (dVar 1) (dC (.int 3))) (dIdxT (dBin oGet (dBin oGet (dVar 0) (dBin oGet (dVar 1) (dC (.int 1)))) (dC (.int 1))) (dBin oGet (dVar 4) (dC (.int 1))))) dNil)))) (gN 2)) (sAsg (dBin oAdd (dVar 2) (dLst (dCons (dVar 4) dNil))) (gN 2))))
    (sRet (dSS (dVar 2)))))) sNil)
    (sSeq (sAsg (dBin oAdd (dBin oMul (dLst (dCons (dSl (dVar 1) dNoPart (dPart (dC (.int 2)))) dNil)) (dFn fInt (dCons (dBin oIn (dBin oGet (dVar 1) (dC (.int 0))) (dTup (dCons (dC (.str "read")) (dCons (dC (.str "write")) (dCons (dC (.str "do")) dNil))))) dNil))) (dBin oMul (dLst (dCons (dVar 1) dNil)) (dFn fInt (dCons (dBin oEq (dVar 1) (dTup (dCons (dC (.str "ask")) dNil))) dNil)))) (gN 2))
    (sSeq (sAsg (dBin oAdd (dVar 2) (dBin oMul (dLst (dCons (dTup (dCons (dC (.str "say")) dNil)) dNil)) (dFn fInt (dCons (dBin oEq (dBin oGet (dVar 1) (dC (.int 0))) (dC (.str "say"))) dNil)))) (gN 2))
    (sSeq (sFor (iEnumA (dVar 1)) (gT 2 (gsCons (gN 5) (gsCons (gN 3) gsNil))) (sIf (dTest (dIsi "tuple" (dVar 3))) (sSeq (sAsg (dCall 2 (c .f__law_marks) (dCons (dVar 0) (dCons (dVar 3) dNil))) (gN 6))
    (sSeq (sIf (bAnd (dTest (dBin oEq (dBin oGet (dVar 1) (dC (.int 0))) (dC (.str "own")))) (dTest (dBin oEq (dVar 5) (dC (.int 3))))) (sAsg (dLc (iAny (dVar 6)) (gN 4) (dTest (dBin oNe (dSl (dVar 4) (dPart (dC (.int 1))) dNoPart) (dTup (dCons (dBin oGet (dVar 1) (dC (.int 1))) dNil)))) (dVar 4) [4]) (gN 6)) sNil)
    (sAsg (dBin oAdd (dVar 2) (dVar 6)) (gN 2)))) sNil))
    (sRet (dSS (dVar 2)))))))
def b_f_is_met (c c2 : CF → Fn) : SDen :=
    (sSeq (sIf (dTest (dBin oIn (dBin oGet (dVar 0) (dC (.int 0))) (dTup (dCons (dC (.str "say")) (dCons (dC (.str "ask")) dNil))))) (sRet (dBin oIn (dVar 0) (dVar 1))) sNil)
    (sSeq (sIf (dTest (dBin oEq (dBin oGet (dVar 0) (dC (.int 0))) (dC (.str "write")))) (sRet (dOrV (dBin oIn (dTup (dCons (dC (.str "read")) (dCons (dBin oGet (dVar 0) (dC (.int 1))) dNil))) (dVar 1)) (dBin oIn (dTup (dCons (dC (.str "write")) (dCons (dBin oGet (dVar 0) (dC (.int 1))) dNil))) (dVar 1)))) sNil)
    (sRet (dBin oIn (dTup (dCons (dC (.str "write")) (dCons (dBin oGet (dVar 0) (dC (.int 1))) dNil))) (dVar 1)))))
def b_f_clash (c c2 : CF → Fn) : SDen :=
    (sSeq (sAsg (dCall 2 (c .f_touches) (dCons (dVar 0) (dCons (dVar 1) dNil))) (gN 3))
    (sSeq (sAsg (dCall 2 (c .f_touches) (dCons (dVar 0) (dCons (dVar 2) dNil))) (gN 4))
    (sRet (dSS (dLc (iAny (dVar 3)) (gN 5) (dTest (dCall 2 (c .f_is_met) (dCons (dVar 5) (dCons (dVar 4) dNil)))) (dBin oGet (dVar 5) (dNeg (dC (.int 1)))) [5])))))
def b_f_may_go (c c2 : CF → Fn) : SDen :=
    (sRet (dBin oEq (dCall 3 (c .f_clash) (dCons (dVar 0) (dCons (dVar 1) (dCons (dVar 2) dNil)))) (dLst dNil)))
def b_f__law_clash (c c2 : CF → Fn) : SDen :=
    (sSeq (sAsg (dLc (iAny (dVar 0)) (gN 5) (bAnd (dTest (dBin oIn (dVar 5) (dTup (dCons (dTup (dCons (dC (.str "say")) dNil)) (dCons (dTup (dCons (dC (.str "ask")) dNil)) dNil))))) (dTest (dBin oIn (dVar 5) (dVar 1)))) (dBin oGet (dVar 5) (dC (.int 0))) [5]) (gN 2))
    (sSeq (sFor (iAny (dTup (dCons (dTup (dCons (dVar 0) (dCons (dVar 1) dNil))) (dCons (dTup (dCons (dVar 1) (dCons (dVar 0) dNil))) dNil)))) (gT 2 (gsCons (gN 3) (gsCons (gN 4) gsNil))) (sFor (iAny (dVar 3)) (gN 5) (sIf (bAnd (dTest (dBin oEq (dBin oGet (dVar 5) (dC (.int 0))) (dC (.str "write")))) (dTest (dBin oNe (dLc (iAny (dVar 4)) (gN 6) (dTest (dBin oEq (dSl (dVar 6) (dPart (dC (.int 1))) dNoPart) (dSl (dVar 5) (dPart (dC (.int 1))) dNoPart))) (dVar 6) [6]) (dLst dNil)))) (sExpr (dAppend (dVar 2) (dBin oGet (dVar 5) (dC (.int 1))))) sNil)))
    (sRet (dSS (dVar 2)))))
def b_f_all_may_go (c c2 : CF → Fn) : SDen :=
    (sSeq (sFor (iEnumA (dVar 1)) (gT 2 (gsCons (gN 2) (gsCons (gN 3) gsNil))) (sIf (bNot (dTest (dFn fAll (dCons (dLc (iAny (dSl (dVar 1) (dPart (dBin oAdd (dVar 2) (dC (.int 1)))) dNoPart)) (gN 4) bYes (dCall 3 (c .f_may_go) (dCons (dVar 0) (dCons (dVar 3) (dCons (dVar 4) dNil)))) [4]) dNil)))) (sRet (dC (.bl false))) sNil))
    (sRet (dC (.bl true))))
def b_f_clashing (c c2 : CF → Fn) : SDen :=
    (sSeq (sAsg (dLst dNil) (gN 2))
    (sSeq (sFor (iEnumA (dVar 1)) (gT 2 (gsCons (gN 3) (gsCons (gN 4) gsNil))) (sExpr (dExtend (dVar 2) (dLc (iRange2 (dBin oAdd (dVar 3) (dC (.int 1))) (dFn fLen (dCons (dVar 1) dNil))) (gN 5) (bNot (dTest (dCall 3 (c .f_may_go) (dCons (dVar 0) (dCons (dVar 4) (dCons (dBin oGet (dVar 1) (dVar 5)) dNil)))))) (dTup (dCons (dVar 3) (dCons (dVar 5) dNil))) [5]))))
    (sRet (dVar 2))))
def b_f_goes_twice (c c2 : CF → Fn) : SDen :=
    (sSeq (sAsg (dCall 2 (c .f_touches) (dCons (dVar 0) (dCons (dVar 1) dNil))) (gN 2))
    (sSeq (sIf (bOr (dTest (dBin oIn (dTup (dCons (dC (.str "say")) dNil)) (dVar 2))) (dTest (dBin oIn (dTup (dCons (dC (.str "ask")) dNil)) (dVar 2)))) (sRet (dC (.bl false))) sNil)
    (sRet (dNotV (dFn fAny (dCons (dLc (iAny (dVar 2)) (gN 3) (dTest (dBin oEq (dBin oGet (dVar 3) (dC (.int 0))) (dC (.str "write")))) (dBin oIn (dTup (dCons (dC (.str "read")) (dCons (dBin oGet (dVar 3) (dC (.int 1))) dNil))) (dVar 2)) [3]) dNil))))))
def cbody (c c2 : CF → Fn) : CF → Fn
  | .f_parts_of => runFn 1 2 (b_f_parts_of c c2)
  | .f__law_cell => runFn 2 2 (b_f__law_cell c c2)
  | .f__law_drawn => runFn 3 4 (b_f__law_drawn c c2)
  | .f__law_leaf => runFn 3 8 (b_f__law_leaf c c2)
  | .f__law_deed => runFn 5 11 (b_f__law_deed c c2)
  | .f__law_call => runFn 5 9 (b_f__law_call c c2)
  | .f__law_rules => runFn 2 7 (b_f__law_rules c c2)
  | .f__law_weight => runFn 3 9 (b_f__law_weight c c2)
  | .f__law_light => runFn 4 5 (b_f__law_light c c2)
  | .m_Run_touch => runFn 2 2 (b_m_Run_touch c c2)
  | .m_Run_worth => runFn 3 6 (b_m_Run_worth c c2)
  | .m_Run_at_shelf => runFn 3 5 (b_m_Run_at_shelf c c2)
  | .m_Run_with_names => runFn 3 10 (b_m_Run_with_names c c2)
  | .m_Run_put_together => runFn 3 7 (b_m_Run_put_together c c2)
  | .m_World_touched => runFn 2 3 (b_m_World_touched c c2)
  | .f_marks_of => runFn 2 7 (b_f_marks_of c c2)
  | .f_once => runFn 1 1 (b_f_once c c2)
  | .f_call_marks => runFn 2 8 (b_f_call_marks c c2)
  | .f_touches => runFn 2 2 (b_f_touches c c2)
  | .f__law_marks => runFn 2 7 (b_f__law_marks c c2)
  | .f_is_met => runFn 2 2 (b_f_is_met c c2)
  | .f_clash => runFn 3 6 (b_f_clash c c2)
  | .f_may_go => runFn 3 3 (b_f_may_go c c2)
  | .f__law_clash => runFn 2 7 (b_f__law_clash c c2)
  | .f_all_may_go => runFn 2 5 (b_f_all_may_go c c2)
  | .f_clashing => runFn 2 6 (b_f_clashing c c2)
  | .f_goes_twice => runFn 2 4 (b_f_goes_twice c c2)
def csem : Nat → CF → Fn
  | 0 => fun _ _ _ => .bad
  | 1 => fun _ _ _ => .bad
  | n + 2 => cbody (csem (n + 1)) (csem n)
theorem cs_f_parts_of (n : Nat) : csem (n + 2) .f_parts_of = runFn 1 2 (b_f_parts_of (csem (n + 1)) (csem n)) := rfl
theorem cs_f__law_cell (n : Nat) : csem (n + 2) .f__law_cell = runFn 2 2 (b_f__law_cell (csem (n + 1)) (csem n)) := rfl
theorem cs_f__law_drawn (n : Nat) : csem (n + 2) .f__law_drawn = runFn 3 4 (b_f__law_drawn (csem (n + 1)) (csem n)) := rfl
theorem cs_f__law_leaf (n : Nat) : csem (n + 2) .f__law_leaf = runFn 3 8 (b_f__law_leaf (csem (n + 1)) (csem n)) := rfl
theorem cs_f__law_deed (n : Nat) : csem (n + 2) .f__law_deed = runFn 5 11 (b_f__law_deed (csem (n + 1)) (csem n)) := rfl
theorem cs_f__law_call (n : Nat) : csem (n + 2) .f__law_call = runFn 5 9 (b_f__law_call (csem (n + 1)) (csem n)) := rfl
theorem cs_f__law_rules (n : Nat) : csem (n + 2) .f__law_rules = runFn 2 7 (b_f__law_rules (csem (n + 1)) (csem n)) := rfl
theorem cs_f__law_weight (n : Nat) : csem (n + 2) .f__law_weight = runFn 3 9 (b_f__law_weight (csem (n + 1)) (csem n)) := rfl
theorem cs_f__law_light (n : Nat) : csem (n + 2) .f__law_light = runFn 4 5 (b_f__law_light (csem (n + 1)) (csem n)) := rfl
theorem cs_m_Run_touch (n : Nat) : csem (n + 2) .m_Run_touch = runFn 2 2 (b_m_Run_touch (csem (n + 1)) (csem n)) := rfl
theorem cs_m_Run_worth (n : Nat) : csem (n + 2) .m_Run_worth = runFn 3 6 (b_m_Run_worth (csem (n + 1)) (csem n)) := rfl
theorem cs_m_Run_at_shelf (n : Nat) : csem (n + 2) .m_Run_at_shelf = runFn 3 5 (b_m_Run_at_shelf (csem (n + 1)) (csem n)) := rfl
theorem cs_m_Run_with_names (n : Nat) : csem (n + 2) .m_Run_with_names = runFn 3 10 (b_m_Run_with_names (csem (n + 1)) (csem n)) := rfl
theorem cs_m_Run_put_together (n : Nat) : csem (n + 2) .m_Run_put_together = runFn 3 7 (b_m_Run_put_together (csem (n + 1)) (csem n)) := rfl
theorem cs_m_World_touched (n : Nat) : csem (n + 2) .m_World_touched = runFn 2 3 (b_m_World_touched (csem (n + 1)) (csem n)) := rfl
theorem cs_f_marks_of (n : Nat) : csem (n + 2) .f_marks_of = runFn 2 7 (b_f_marks_of (csem (n + 1)) (csem n)) := rfl
theorem cs_f_once (n : Nat) : csem (n + 2) .f_once = runFn 1 1 (b_f_once (csem (n + 1)) (csem n)) := rfl
theorem cs_f_call_marks (n : Nat) : csem (n + 2) .f_call_marks = runFn 2 8 (b_f_call_marks (csem (n + 1)) (csem n)) := rfl
theorem cs_f_touches (n : Nat) : csem (n + 2) .f_touches = runFn 2 2 (b_f_touches (csem (n + 1)) (csem n)) := rfl
theorem cs_f__law_marks (n : Nat) : csem (n + 2) .f__law_marks = runFn 2 7 (b_f__law_marks (csem (n + 1)) (csem n)) := rfl
theorem cs_f_is_met (n : Nat) : csem (n + 2) .f_is_met = runFn 2 2 (b_f_is_met (csem (n + 1)) (csem n)) := rfl
theorem cs_f_clash (n : Nat) : csem (n + 2) .f_clash = runFn 3 6 (b_f_clash (csem (n + 1)) (csem n)) := rfl
theorem cs_f_may_go (n : Nat) : csem (n + 2) .f_may_go = runFn 3 3 (b_f_may_go (csem (n + 1)) (csem n)) := rfl
theorem cs_f__law_clash (n : Nat) : csem (n + 2) .f__law_clash = runFn 2 7 (b_f__law_clash (csem (n + 1)) (csem n)) := rfl
theorem cs_f_all_may_go (n : Nat) : csem (n + 2) .f_all_may_go = runFn 2 5 (b_f_all_may_go (csem (n + 1)) (csem n)) := rfl
theorem cs_f_clashing (n : Nat) : csem (n + 2) .f_clashing = runFn 2 6 (b_f_clashing (csem (n + 1)) (csem n)) := rfl
theorem cs_f_goes_twice (n : Nat) : csem (n + 2) .f_goes_twice = runFn 2 4 (b_f_goes_twice (csem (n + 1)) (csem n)) := rfl
end DL

set_option Elab.async false
set_option linter.all false
set_option maxRecDepth 100000
set_option maxHeartbeats 1000000
namespace DL
open PySem L2
def fin : R Fl → R D
  | .ok (.nx _) S' => .ok .non S'
  | .ok (.rt d) S' => .ok d S'
  | .ok (.ex c _) S' => .exc c S'
  | _ => .bad
theorem runFn_fin {np nN : Nat} {b : SDen} {ds : List D} {S : Sto} (h : ds.length = np) : runFn np nN b ds S = fin (b (ds.map some ++ List.replicate (nN - np) none) S) := by
  unfold runFn
  rw [if_pos h]
  cases b (ds.map some ++ List.replicate (nN - np) none) S with
  | ok f S' => cases f <;> rfl
  | _ => rfl
theorem items_tup {S : Sto} {ds : List D} : items S (.tup ds) = some ds := rfl
section
variable {o o' : Op} {a b c : Den} {ba bb : DenB} {r : DenA} {p q : DenO} {ε : Env} {S : Sto} {d e : D} {i : Nat} {u v : SDen} {g : GDen} {gs : GDens} {ds : List D} {f : Fn} {n : Nat} {F : Fn} {m x : Str}
@[simp] theorem x_C : dC d ε S = .ok d S := rfl
@[simp] theorem x_Var {d : D} (h : ε[i]? = some (some d)) : dVar i ε S = .ok d S := by unfold dVar; rw [h]
@[simp] theorem x_Nil : dNil ε S = .ok [] S := rfl
@[simp] theorem x_Cons : dCons a r ε S = (a ε S).bind fun d S => (r ε S).bind fun ds S => .ok (d :: ds) S := rfl
@[simp] theorem x_Tup : dTup r ε S = (r ε S).bind mkTup := rfl
@[simp] theorem x_Lst : dLst r ε S = (r ε S).bind mkLst := rfl
@[simp] theorem x_Bin : dBin o a b ε S = (a ε S).bind fun d S => (b ε S).bind fun e S => o d e S := rfl
@[simp] theorem x_bind {α β : Type} {a : α} {k : α → Sto → R β} : (R.ok a S).bind k = k a S := rfl
@[simp] theorem x_bindB {α β : Type} {k : α → Sto → R β} : (R.bad : R α).bind k = .bad := rfl
@[simp] theorem x_bindX {α β : Type} {k : α → Sto → R β} : (R.exc x S : R α).bind k = .exc x S := rfl
@[simp] theorem x_Test {t : Bool} (h : a ε S = .ok (.bl t) S) : dTest a ε S = .ok t S := by unfold dTest; rw [h]; rfl
@[simp] theorem x_And : bAnd ba bb ε S = (ba ε S).bind fun c S => if c = true then bb ε S else .ok false S := rfl
@[simp] theorem x_Or : bOr ba bb ε S = (ba ε S).bind fun c S => if c = true then .ok true S else bb ε S := rfl
@[simp] theorem x_Not : bNot ba ε S = (ba ε S).bind fun c S => .ok (!c) S := rfl
@[simp] theorem x_If : dIf ba a b ε S = (ba ε S).bind fun k S => if k = true then a ε S else b ε S := rfl
@[simp] theorem x_Fn : dFn f r ε S = (r ε S).bind fun ds S => f ds S := rfl
@[simp] theorem x_Call : dCall n F r ε S = (r ε S).bind fun ds S => if ds.length = n then F ds S else .bad := rfl
@[simp] theorem x_NoPart : dNoPart ε S = .ok none S := rfl
@[simp] theorem x_Sl : dSl a p q ε S = (a ε S).bind fun d S => (p ε S).bind fun l S => (q ε S).bind fun u S => oSl d l u S := rfl
@[simp] theorem x_sNil : sNil ε S = .ok (.nx ε) S := rfl
@[simp] theorem x_Seq : sSeq u v ε S = sN (u ε S) v := rfl
@[simp] theorem x_Ret : sRet a ε S = sE (a ε S) ε fun d S => .ok (.rt d) S := rfl
@[simp] theorem x_Expr : sExpr a ε S = sE (a ε S) ε fun _ S => .ok (.nx ε) S := rfl
@[simp] theorem x_sIf : sIf ba u v ε S = sE (ba ε S) ε fun k S => if k = true then u ε S else v ε S := rfl
@[simp] theorem x_Asg : sAsg a g ε S = sE (a ε S) ε fun d S => match g d ε S with
  | some ε' => .ok (.nx ε') S
  | none => .bad := rfl
@[simp] theorem x_gN : gN i d ε S = some (ε.set i (some d)) := rfl
@[simp] theorem x_gsNil : gsNil [] ε S = some ε := rfl
@[simp] theorem x_gsCons : gsCons g gs (d :: ds) ε S = (g d ε S).bind fun ε => gs ds ε S := rfl
@[simp] theorem x_sE {α : Type} {a : α} {k : α → Sto → R Fl} : sE (R.ok a S) ε k = k a S := rfl
@[simp] theorem x_sN {k : Env → Sto → R Fl} : sN (.ok (.nx ε) S) k = k ε S := rfl
@[simp] theorem x_sNr {k : Env → Sto → R Fl} : sN (.ok (.rt d) S) k = .ok (.rt d) S := rfl
@[simp] theorem x_run {np nN : Nat} {b : SDen} (h : ds.length = np) : runFn np nN b ds S = fin (b (ds.map some ++ List.replicate (nN - np) none) S) := runFn_fin h
@[simp] theorem x_fin : fin (.ok (.rt d) S) = .ok d S := rfl
@[simp] theorem x_finN : fin (.ok (.nx ε) S) = .ok .non S := rfl
@[simp] theorem x_addI {i j : Int} : oAdd (.int i) (.int j) S = .ok (.int (i + j)) S := rfl
@[simp] theorem x_subI {i j : Int} : oSub (.int i) (.int j) S = .ok (.int (i - j)) S := rfl
@[simp] theorem x_modI {i j : Int} : oMod (.int i) (.int j) S = if 0 < j then .ok (.int (i % j)) S else .bad := rfl
@[simp] theorem x_divI {i j : Int} : oDiv (.int i) (.int j) S = if 0 < j ∧ j < 1073741824 then .ok (.int (i / j)) S else .bad := rfl
@[simp] theorem x_mulI {i j : Int} : oMul (.int i) (.int j) S = if (-(2 ^ 64) < i ∧ i < 2 ^ 64) ∨ (-(2 ^ 64) < j ∧ j < 2 ^ 64) then .ok (.int (i * j)) S else .bad := rfl
@[simp] theorem x_eqI {i j : Int} : oEq (.int i) (.int j) S = .ok (.bl (decide (i = j))) S := rfl
@[simp] theorem x_eqS {i j : Str} : oEq (.str i) (.str j) S = .ok (.bl (decide (i = j))) S := rfl
@[simp] theorem x_neI {i j : Int} : oNe (.int i) (.int j) S = .ok (.bl (!decide (i = j))) S := rfl
@[simp] theorem x_ltI {i j : Int} : oLt (.int i) (.int j) S = .ok (.bl (decide (i < j))) S := rfl
@[simp] theorem x_leI {i j : Int} : oLe (.int i) (.int j) S = .ok (.bl (decide (i ≤ j))) S := rfl
@[simp] theorem x_gtI {i j : Int} : oGt (.int i) (.int j) S = .ok (.bl (decide (j < i))) S := rfl
@[simp] theorem x_geI {i j : Int} : oGe (.int i) (.int j) S = .ok (.bl (decide (j ≤ i))) S := rfl
@[simp] theorem x_mkTup (h : ds.length ≤ 1000) : mkTup ds S = .ok (.tup ds) S := by unfold mkTup; rw [if_pos (show ds.length ≤ big from Nat.le_trans h (by decide))]
@[simp] theorem x_mkLst (h : ds.length ≤ 1000) : mkLst ds S = .ok (.ref S.length) (S ++ [.lst ds]) := by unfold mkLst; rw [if_pos (show ds.length ≤ big from Nat.le_trans h (by decide))]
@[simp] theorem x_lenT : fLen [.tup ds] S = .ok (.int ds.length) S := rfl
@[simp] theorem x_lenS : fLen [.seq ds] S = .ok (.int ds.length) S := rfl
end
theorem x_get {S : Sto} {d : D} {i : Int} {ds : List D} {e : D} (hd : dctAt S d = none) (h : items S d = some ds) (he : atI ds i = some e) : oGet d (.int i) S = .ok e S := by
  unfold oGet
  rw [hd]
  unfold oIx
  cases d <;> simp_all [items]
@[simp] theorem x_getT {S : Sto} {i : Int} {ds : List D} : oGet (.tup ds) (.int i) S = (match atI ds i with | some e => .ok e S | none => .bad) := rfl
@[simp] theorem x_getS {S : Sto} {i : Int} {ds : List D} : oGet (.seq ds) (.int i) S = (match atI ds i with | some e => .ok e S | none => .bad) := rfl
theorem atI_in {α : Type} {l : List α} {i : Int} (h0 : 0 ≤ i) (h1 : i < l.length) : atI l i = l[i.toNat]? := by
  unfold atI ixN
  rw [if_pos h0, if_pos h1]
  rfl
@[simp] theorem atI_0 {α : Type} {x : α} {l : List α} : atI (x :: l) 0 = some x := by rw [atI_in (by omega) (by simp)]; rfl
@[simp] theorem atI_1 {α : Type} {x y : α} {l : List α} : atI (x :: y :: l) 1 = some y := by rw [atI_in (by omega) (by simp; omega)]; rfl
@[simp] theorem atI_2 {α : Type} {x y z : α} {l : List α} : atI (x :: y :: z :: l) 2 = some z := by rw [atI_in (by omega) (by simp; omega)]; rfl
@[simp] theorem atI_3 {α : Type} {x y z w : α} {l : List α} : atI (x :: y :: z :: w :: l) 3 = some w := by rw [atI_in (by omega) (by simp; omega)]; rfl
mutual
def nb : PyData → Bool
  | .none => true
  | .bool _ => false
  | .int _ => true
  | .str _ => true
  | .list xs => nbs xs
  | .tuple xs => nbs xs
  | .dict _ => false
def nbs : List PyData → Bool
  | [] => true
  | x :: xs => nb x && nbs xs
end
mutual
theorem eqv_iff : ∀ p q : PyData, nb p = true → nb q = true → (PyData.eqv p q = true ↔ p = q)
  | .none, q, _, hq => by cases q <;> simp_all [nb, PyData.eqv]
  | .bool _, q, hp, _ => by simp [nb] at hp
  | .int _, q, _, hq => by cases q <;> simp_all [nb, PyData.eqv]
  | .str _, q, _, hq => by cases q <;> simp_all [nb, PyData.eqv]
  | .dict _, q, hp, _ => by simp [nb] at hp
  | .list xs, q, hp, hq => by
    cases q with
    | list ys =>
      have h := eqvs_iff xs ys (by simpa [nb] using hp) (by simpa [nb] using hq)
      simp [PyData.eqv, h]
    | _ => simp_all [nb, PyData.eqv]
  | .tuple xs, q, hp, hq => by
    cases q with
    | tuple ys =>
      have h := eqvs_iff xs ys (by simpa [nb] using hp) (by simpa [nb] using hq)
      simp [PyData.eqv, h]
    | _ => simp_all [nb, PyData.eqv]
theorem eqvs_iff : ∀ p q : List PyData, nbs p = true → nbs q = true → (PyData.eqvAll p q = true ↔ p = q)
  | [], q, _, _ => by cases q <;> simp [PyData.eqvAll]
  | x :: xs, q, hp, hq => by
    cases q with
    | nil => simp [PyData.eqvAll]
    | cons y ys =>
      simp only [nbs, Bool.and_eq_true] at hp hq
      simp [PyData.eqvAll, eqv_iff x y hp.1 hq.1, eqvs_iff xs ys hp.2 hq.2]
end
theorem frz_t {n : Nat} {S : Sto} {ds : List D} : frz (n + 1) S (.tup ds) = (fall (frz n S) ds).map .tuple := rfl
theorem frz_i {n : Nat} {S : Sto} {i : Int} : frz (n + 1) S (.int i) = some (.int i) := rfl
theorem frz_str {n : Nat} {S : Sto} {i : Str} : frz (n + 1) S (.str i) = some (.str i) := rfl
theorem frz_l {n m : Nat} {S : Sto} {ds : List D} (h : S[m]? = some (.lst ds)) : frz (n + 1) S (.ref m) = (fall (frz n S) ds).map .list := by
  unfold frz
  simp only [h]
theorem fall_cons {α β : Type} {f : α → Option β} {a : α} {r : List α} {b : β} {s : List β} (h : f a = some b) (hr : fall f r = some s) : fall f (a :: r) = some (b :: s) := by
  unfold fall
  rw [h, hr]
theorem frz_ints (n : Nat) (S : Sto) : ∀ ns : List Int, fall (frz (n + 1) S) (ns.map D.int) = some (ns.map PyData.int)
  | [] => rfl
  | i :: r => fall_cons frz_i (frz_ints n S r)
theorem nbs_ints : ∀ ns : List Int, nbs (ns.map PyData.int) = true
  | [] => rfl
  | i :: r => by simp [nbs, nb, nbs_ints r]
theorem lay_ints : ∀ ns : List Int, PyData.canLayAll0 (ns.map PyData.int) = true ∧ PyData.depthAll (ns.map PyData.int) ≤ 1
  | [] => ⟨rfl, by decide⟩
  | i :: r => by
    obtain ⟨a, b⟩ := lay_ints r
    refine ⟨by simp [PyData.canLayAll0, PyData.canLay0, a], ?_⟩
    simp only [List.map_cons, PyData.depthAll, PyData.depth]
    omega
theorem shaped_ints (ns : List Int) : SeqAt.shaped (.list (ns.map PyData.int)) = true := by
  obtain ⟨a, b⟩ := lay_ints ns
  have c : PyData.depth (.list (ns.map PyData.int)) ≤ 64 := by
    rw [PyData.depth]
    omega
  unfold SeqAt.shaped
  rw [PyData.canLay0, a, decide_eq_true c]
  rfl
theorem dEq_frz {S : Sto} {d e : D} {p q : PyData} (hs : sEq d e = none) (hp : frz deep S d = some p) (hq : frz deep S e = some q) (sp : SeqAt.shaped p = true) (sq : SeqAt.shaped q = true) : dEq S d e = some (PyData.eqv p q) := by
  unfold dEq
  simp only [hs, hp, hq]
  rw [if_pos ⟨sp, sq⟩]
theorem dEq_ints {S : Sto} {ns : List Int} {n : Nat} (h : S[n]? = some (.lst [])) : dEq S (.seq (ns.map D.int)) (.ref n) = some (decide (ns = [])) := by
  have e1 : frz deep S (.seq (ns.map D.int)) = some (.list (ns.map PyData.int)) := by
    show (fall (frz (38 + 1) S) (ns.map D.int)).map PyData.list = _
    rw [frz_ints]
    rfl
  have e2 : frz deep S (.ref n) = some (.list []) := by
    show frz (39 + 1) S (.ref n) = _
    rw [frz_l h]
    rfl
  rw [dEq_frz rfl e1 e2 (shaped_ints ns) (shaped_ints [])]
  congr 1
  rw [Bool.eq_iff_iff, eqv_iff _ _ (by simp [nb, nbs_ints]) rfl]
  simp
def Pur (f : Sto → R D) (d : D) : Prop := ∀ S, ∃ E, f S = .ok d (S ++ E)
def cellv (ns : List Int) (k : Int) : Int := if ns = [] then 7 * k else (ns[(k % (ns.length : Int)).toNat]?).getD 0 + 6553 * (k / (ns.length : Int))
theorem cell_sem (n : Nat) (ns : List Int) (k : Int) (hk : 0 ≤ k) (hl : ns.length ≤ 63) : Pur (csem (n + 2) .f__law_cell [.seq (ns.map D.int), .int k]) (.int (cellv ns k)) := fun S => by
  refine ⟨[.lst []], ?_⟩
  rw [cs_f__law_cell]
  have e : dEq (S ++ [O.lst []]) (.seq (ns.map D.int)) (.ref S.length) = some (decide (ns = [])) := dEq_ints (by simp)
  simp [b_f__law_cell, dTest, oEq, e]
  by_cases h : ns = []
  · simp [h, cellv]
  · have hp : 0 < (ns.length : Int) := by have := List.length_pos_iff.mpr h; omega
    have e1 := Int.emod_nonneg k (show (ns.length : Int) ≠ 0 by omega)
    have e2 := Int.emod_lt_of_pos k hp
    have e3 : atI (ns.map D.int) (k % (ns.length : Int)) = some (.int ((ns[(k % (ns.length : Int)).toNat]?).getD 0)) := by
      rw [atI_in e1 (by simpa using e2), List.getElem?_map, List.getElem?_eq_getElem (show (k % (ns.length : Int)).toNat < ns.length by omega)]
      rfl
    have e4 : (ns.length : Int) < 1073741824 := by omega
    simp [h, hp, List.length_pos_iff.mpr h, e3, e4, cellv]
def drw (ns : List Int) (k m : Int) : Int :=
  let a := (cellv ns k % 2147483563 * 69069 + 104723 * (k + 1)) % 2147483563
  let b := (a * a + a / 3) % 2147483399
  (b * b + b / 7) % 2147483647 / 11 % m
theorem drw_lo (ns : List Int) (k : Int) {m : Int} (h : 0 < m) : 0 ≤ drw ns k m := Int.emod_nonneg _ (by omega)
theorem drw_hi (ns : List Int) (k : Int) {m : Int} (h : 0 < m) : drw ns k m < m := Int.emod_lt_of_pos _ h
theorem drawn_sem (n : Nat) (ns : List Int) (k m : Int) (hk : 0 ≤ k) (hm : 0 < m) (hl : ns.length ≤ 63) : Pur (csem (n + 3) .f__law_drawn [.seq (ns.map D.int), .int k, .int m]) (.int (drw ns k m)) := fun S => by
  obtain ⟨E, e⟩ := cell_sem n ns k hk hl S
  refine ⟨E, ?_⟩
  rw [cs_f__law_drawn]
  have b1 := Int.emod_nonneg (cellv ns k) (show (2147483563 : Int) ≠ 0 by decide)
  have b2 := Int.emod_lt_of_pos (cellv ns k) (show (0 : Int) < 2147483563 by decide)
  have c1 := Int.emod_nonneg (cellv ns k % 2147483563 * 69069 + 104723 * (k + 1)) (show (2147483563 : Int) ≠ 0 by decide)
  have c2 := Int.emod_lt_of_pos (cellv ns k % 2147483563 * 69069 + 104723 * (k + 1)) (show (0 : Int) < 2147483563 by decide)
  simp [b_f__law_drawn, e]
  generalize hA : (cellv ns k % 2147483563 * 69069 + 104723 * (k + 1)) % 2147483563 = A at *
  have t1 : -(2 ^ 64) < A ∧ A < 2 ^ 64 := by omega
  have c3 := Int.emod_nonneg (A * A + A / 3) (show (2147483399 : Int) ≠ 0 by decide)
  have c4 := Int.emod_lt_of_pos (A * A + A / 3) (show (0 : Int) < 2147483399 by decide)
  have t1' : -18446744073709551616 < A ∧ A < 18446744073709551616 := by omega
  simp [t1']
  generalize hB : (A * A + A / 3) % 2147483399 = B at *
  have t2 : -18446744073709551616 < B ∧ B < 18446744073709551616 := by omega
  simp [t2, hm, drw, hA, hB]
end DL

set_option Elab.async false
set_option linter.all false
set_option maxRecDepth 100000
set_option maxHeartbeats 1000000
namespace DL
open PySem L2
inductive Two where
  | thn | add | les | lop
inductive Deed where
  | num (i : Int) | nam (x : Str) | dod (x : Str) | ask | rd (x : Str)
  | wr (x : Str) (a : Deed) | say (a : Deed) | lt (x : Str) (a b : Deed) | own (x : Str) (a b : Deed)
  | iff (a b c : Deed) | two (w : Two) (a b : Deed) | call (i : Nat) (ps hs : List Deed)
def Two.w : Two → Str
  | .thn => "then" | .add => "add" | .les => "less" | .lop => "loop"
def abcd : List Str := ["a", "b", "c", "d"]
def kd (x : Str) : Nat := if x ∈ (["x", "y", "x1", "z"] : List Str) then 1 else if x ∈ (["p", "q"] : List Str) then 2 else if x ∈ (["f", "g1", "g"] : List Str) then 3 else 0
mutual
def enc : Deed → D
  | .num i => .tup [.str "number", .int i]
  | .nam x => .tup [.str "name", .str x]
  | .dod x => .tup [.str "do", .str x]
  | .ask => .tup [.str "ask"]
  | .rd x => .tup [.str "read", .str x]
  | .wr x a => .tup [.str "write", .str x, enc a]
  | .say a => .tup [.str "say", enc a]
  | .lt x a b => .tup [.str "let", .str x, enc a, enc b]
  | .own x a b => .tup [.str "own", .str x, enc a, enc b]
  | .iff a b c => .tup [.str "if", enc a, enc b, enc c]
  | .two w a b => .tup [.str w.w, enc a, enc b]
  | .call i ps hs => .tup [.str "call", .int i, .tup (encs ps), .tup (encs hs)]
def encs : List Deed → List D
  | [] => []
  | d :: ds => enc d :: encs ds
end
theorem encs_map : ∀ ds : List Deed, encs ds = ds.map enc
  | [] => rfl
  | d :: ds => by rw [encs, encs_map ds]; rfl
mutual
def dep : Deed → Nat
  | .num _ => 0 | .nam _ => 0 | .dod _ => 0 | .ask => 0 | .rd _ => 0
  | .wr _ a => dep a + 1
  | .say a => dep a + 1
  | .lt _ a b => max (dep a) (dep b) + 1
  | .own _ a b => max (dep a) (dep b) + 1
  | .iff a b c => max (dep a) (max (dep b) (dep c)) + 1
  | .two _ a b => max (dep a) (dep b) + 1
  | .call _ ps hs => max (deps ps) (deps hs) + 1
def deps : List Deed → Nat
  | [] => 0
  | d :: ds => max (dep d) (deps ds)
end
mutual
def okD (sz : List (Nat × Nat)) (K : List Str) : Deed → Prop
  | .num i => 0 ≤ i ∧ i ≤ 1008
  | .nam x => x ∈ K ∧ kd x = 1
  | .dod x => x ∈ K ∧ kd x = 3
  | .ask => True
  | .rd x => (x ∈ K ∧ kd x = 2) ∨ x ∈ abcd
  | .wr x a => ((x ∈ K ∧ kd x = 2) ∨ x ∈ abcd) ∧ okD sz K a
  | .say a => okD sz K a
  | .lt x a b => kd x = 1 ∧ okD sz K a ∧ okD sz (x :: K) b
  | .own x a b => kd x = 2 ∧ okD sz K a ∧ okD sz (x :: K) b
  | .iff a b c => okD sz K a ∧ okD sz K b ∧ okD sz K c
  | .two _ a b => okD sz K a ∧ okD sz K b
  | .call i ps hs => sz[i]? = some (ps.length, hs.length) ∧ okDs sz K ps ∧ okDs sz K hs
def okDs (sz : List (Nat × Nat)) (K : List Str) : List Deed → Prop
  | [] => True
  | d :: ds => okD sz K d ∧ okDs sz K ds
end
theorem okDs_iff {sz : List (Nat × Nat)} {K : List Str} : ∀ {ds : List Deed}, okDs sz K ds ↔ ∀ d ∈ ds, okD sz K d
  | [] => by simp [okDs]
  | d :: ds => by simp [okDs, okDs_iff (ds := ds)]
theorem sub_cons {x : Str} {K K' : List Str} (hk : ∀ y ∈ K, y ∈ K') : ∀ y ∈ x :: K, y ∈ x :: K' := fun y hy => by
  rcases List.mem_cons.mp hy with e | e
  · rw [e]; exact List.mem_cons_self
  · exact List.mem_cons_of_mem _ (hk y e)
mutual
theorem okD_mono {sz : List (Nat × Nat)} {sz' : List (Nat × Nat)} (hz : ∀ (i : Nat) (p : Nat × Nat), sz[i]? = some p → sz'[i]? = some p) : ∀ {K K' : List Str} (d : Deed), (∀ x ∈ K, x ∈ K') → okD sz K d → okD sz' K' d
  | _, _, .num i, _, h => h
  | _, _, .nam x, hk, h => ⟨hk _ h.1, h.2⟩
  | _, _, .dod x, hk, h => ⟨hk _ h.1, h.2⟩
  | _, _, .ask, _, h => trivial
  | _, _, .rd x, hk, h => h.imp (fun q => ⟨hk _ q.1, q.2⟩) id
  | _, _, .wr x a, hk, h => ⟨h.1.imp (fun q => ⟨hk _ q.1, q.2⟩) id, okD_mono hz a hk h.2⟩
  | _, _, .say a, hk, h => okD_mono hz a hk h
  | _, _, .lt x a b, hk, h => ⟨h.1, okD_mono hz a hk h.2.1, okD_mono hz b (sub_cons hk) h.2.2⟩
  | _, _, .own x a b, hk, h => ⟨h.1, okD_mono hz a hk h.2.1, okD_mono hz b (sub_cons hk) h.2.2⟩
  | _, _, .iff a b c, hk, h => ⟨okD_mono hz a hk h.1, okD_mono hz b hk h.2.1, okD_mono hz c hk h.2.2⟩
  | _, _, .two _ a b, hk, h => ⟨okD_mono hz a hk h.1, okD_mono hz b hk h.2⟩
  | _, _, .call i ps hs, hk, h => ⟨hz _ _ h.1, okDs_mono hz ps hk h.2.1, okDs_mono hz hs hk h.2.2⟩
theorem okDs_mono {sz : List (Nat × Nat)} {sz' : List (Nat × Nat)} (hz : ∀ (i : Nat) (p : Nat × Nat), sz[i]? = some p → sz'[i]? = some p) : ∀ {K K' : List Str} (ds : List Deed), (∀ x ∈ K, x ∈ K') → okDs sz K ds → okDs sz' K' ds
  | _, _, [], _, _ => trivial
  | _, _, d :: ds, hk, h => ⟨okD_mono hz d hk h.1, okDs_mono hz ds hk h.2⟩
end
mutual
def pyd : Deed → PyData
  | .num i => .tuple [.str "number", .int i]
  | .nam x => .tuple [.str "name", .str x]
  | .dod x => .tuple [.str "do", .str x]
  | .ask => .tuple [.str "ask"]
  | .rd x => .tuple [.str "read", .str x]
  | .wr x a => .tuple [.str "write", .str x, pyd a]
  | .say a => .tuple [.str "say", pyd a]
  | .lt x a b => .tuple [.str "let", .str x, pyd a, pyd b]
  | .own x a b => .tuple [.str "own", .str x, pyd a, pyd b]
  | .iff a b c => .tuple [.str "if", pyd a, pyd b, pyd c]
  | .two w a b => .tuple [.str w.w, pyd a, pyd b]
  | .call i ps hs => .tuple [.str "call", .int i, .tuple (pyds ps), .tuple (pyds hs)]
def pyds : List Deed → List PyData
  | [] => []
  | d :: ds => pyd d :: pyds ds
end
theorem fall_nil {α β : Type} {f : α → Option β} : fall f [] = some [] := rfl
theorem fall_ok {α β : Type} {f : α → Option β} {a : α} {r : List α} {b : β} (h : f a = some b) : fall f (a :: r) = (fall f r).map (b :: ·) := by
  simp only [fall, h]
  cases fall f r <;> rfl
mutual
theorem frz_enc {S : Sto} : ∀ (d : Deed) (n : Nat), 2 * dep d + 2 ≤ n → frz n S (enc d) = some (pyd d)
  | d, 0, h => by omega
  | d, 1, h => by omega
  | .num i, n + 2, h => rfl
  | .nam x, n + 2, h => rfl
  | .dod x, n + 2, h => rfl
  | .ask, n + 2, h => rfl
  | .rd x, n + 2, h => rfl
  | .wr x a, n + 2, h => by
    have e := frz_enc (S := S) a (n + 1) (by simp only [dep] at h; omega)
    simp [enc, pyd, frz_t, frz_str, fall_ok e, fall_ok frz_str, fall_nil]
  | .say a, n + 2, h => by
    have e := frz_enc (S := S) a (n + 1) (by simp only [dep] at h; omega)
    simp [enc, pyd, frz_t, frz_str, fall_ok e, fall_ok frz_str, fall_nil]
  | .lt x a b, n + 2, h => by
    have e := frz_enc (S := S) a (n + 1) (by simp only [dep] at h; omega)
    have e2 := frz_enc (S := S) b (n + 1) (by simp only [dep] at h; omega)
    simp [enc, pyd, frz_t, frz_str, fall_ok e, fall_ok e2, fall_ok frz_str, fall_nil]
  | .own x a b, n + 2, h => by
    have e := frz_enc (S := S) a (n + 1) (by simp only [dep] at h; omega)
    have e2 := frz_enc (S := S) b (n + 1) (by simp only [dep] at h; omega)
    simp [enc, pyd, frz_t, frz_str, fall_ok e, fall_ok e2, fall_ok frz_str, fall_nil]
  | .iff a b c, n + 2, h => by
    have e := frz_enc (S := S) a (n + 1) (by simp only [dep] at h; omega)
    have e2 := frz_enc (S := S) b (n + 1) (by simp only [dep] at h; omega)
    have e3 := frz_enc (S := S) c (n + 1) (by simp only [dep] at h; omega)
    simp [enc, pyd, frz_t, frz_str, fall_ok e, fall_ok e2, fall_ok e3, fall_ok frz_str, fall_nil]
  | .two w a b, n + 2, h => by
    have e := frz_enc (S := S) a (n + 1) (by simp only [dep] at h; omega)
    have e2 := frz_enc (S := S) b (n + 1) (by simp only [dep] at h; omega)
    simp [enc, pyd, frz_t, frz_str, fall_ok e, fall_ok e2, fall_ok frz_str, fall_nil]
  | .call i ps hs, n + 2, h => by
    have e := frz_encs (S := S) ps n (by simp only [dep] at h; omega)
    have e2 := frz_encs (S := S) hs n (by simp only [dep] at h; omega)
    have t1 : frz (n + 1) S (.tup (encs ps)) = some (.tuple (pyds ps)) := by rw [frz_t, e]; rfl
    have t2 : frz (n + 1) S (.tup (encs hs)) = some (.tuple (pyds hs)) := by rw [frz_t, e2]; rfl
    simp [enc, pyd, frz_t, frz_str, fall_ok t1, fall_ok t2, fall_ok frz_str, fall_ok frz_i, fall_nil]
theorem frz_encs {S : Sto} : ∀ (ds : List Deed) (n : Nat), 2 * deps ds + 2 ≤ n → fall (frz n S) (encs ds) = some (pyds ds)
  | [], n, _ => rfl
  | d :: ds, n, h => by
    simp only [deps] at h
    exact fall_cons (frz_enc d n (by omega)) (frz_encs ds n (by omega))
end
def sok (x : Str) : Bool := PyData.canLay0 (.str x)
theorem sok_1 : ∀ x ∈ (["x", "y", "x1", "z"] : List Str), sok x = true := by decide +kernel
theorem sok_2 : ∀ x ∈ (["p", "q"] : List Str), sok x = true := by decide +kernel
theorem sok_3 : ∀ x ∈ (["f", "g1", "g"] : List Str), sok x = true := by decide +kernel
theorem sok_kd {x : Str} (h : kd x ≠ 0) : sok x = true := by
  unfold kd at h
  split at h
  · rename_i q
    exact sok_1 x q
  · split at h
    · rename_i q
      exact sok_2 x q
    · split at h
      · rename_i q
        exact sok_3 x q
      · exact absurd rfl h
theorem sok_abcd : ∀ x ∈ abcd, sok x = true := by decide +kernel
def Lay (p : PyData) (k : Nat) : Prop := PyData.canLay0 p = true ∧ PyData.depth p ≤ k
def Lays (p : List PyData) (k : Nat) : Prop := PyData.canLayAll0 p = true ∧ PyData.depthAll p ≤ k
theorem Lay.str {x : Str} (h : sok x = true) (k : Nat) : Lay (.str x) k := ⟨h, by rw [PyData.depth]; omega⟩
theorem Lay.int (i : Int) (k : Nat) : Lay (.int i) k := ⟨rfl, by rw [PyData.depth]; omega⟩
theorem Lays.nil (k : Nat) : Lays [] k := ⟨rfl, by rw [PyData.depthAll]; omega⟩
theorem Lays.cons {p : PyData} {ps : List PyData} {k : Nat} (h : Lay p k) (hs : Lays ps k) : Lays (p :: ps) k :=
  ⟨by rw [PyData.canLayAll0, h.1, hs.1]; rfl, by rw [PyData.depthAll]; exact Nat.max_le.mpr ⟨h.2, hs.2⟩⟩
theorem Lay.tup {ps : List PyData} {k : Nat} (h : Lays ps k) : Lay (.tuple ps) (k + 1) := ⟨by rw [PyData.canLay0]; exact h.1, by rw [PyData.depth]; exact Nat.succ_le_succ h.2⟩
theorem Lay.lst {ps : List PyData} {k : Nat} (h : Lays ps k) : Lay (.list ps) (k + 1) := ⟨by rw [PyData.canLay0]; exact h.1, by rw [PyData.depth]; exact Nat.succ_le_succ h.2⟩
theorem Lay.mono {p : PyData} {k j : Nat} (h : Lay p k) (hj : k ≤ j) : Lay p j := ⟨h.1, Nat.le_trans h.2 hj⟩
theorem Lays.mono {p : List PyData} {k j : Nat} (h : Lays p k) (hj : k ≤ j) : Lays p j := ⟨h.1, Nat.le_trans h.2 hj⟩
theorem Lay.shaped {p : PyData} {k : Nat} (h : Lay p k) (hk : k ≤ 64) : SeqAt.shaped p = true := by
  unfold SeqAt.shaped
  rw [h.1, decide_eq_true (Nat.le_trans h.2 hk)]
  rfl
theorem sok_1' {x : Str} (h : kd x = 1) : sok x = true := sok_kd (by rw [h]; decide)
theorem sok_2' {x : Str} (h : kd x = 2) : sok x = true := sok_kd (by rw [h]; decide)
theorem sok_3' {x : Str} (h : kd x = 3) : sok x = true := sok_kd (by rw [h]; decide)
theorem sok_sh {x : Str} {K : List Str} (h : (x ∈ K ∧ kd x = 2) ∨ x ∈ abcd) : sok x = true := h.elim (fun h => sok_2' h.2) fun h => sok_abcd x h
mutual
theorem lay_deed {sz : List (Nat × Nat)} : ∀ (d : Deed) (K : List Str) (k : Nat), okD sz K d → 2 * dep d + 2 ≤ k → Lay (pyd d) k
  | _, _, 0, _, hk => by omega
  | _, _, 1, _, hk => by omega
  | .num i, K, k + 2, h, hk => .tup (.cons (.str (by decide +kernel) _) (.cons (.int _ _) (.nil _)))
  | .nam x, K, k + 2, h, hk => .tup (.cons (.str (by decide +kernel) _) (.cons (.str (sok_1' h.2) _) (.nil _)))
  | .dod x, K, k + 2, h, hk => .tup (.cons (.str (by decide +kernel) _) (.cons (.str (sok_3' h.2) _) (.nil _)))
  | .ask, K, k + 2, h, hk => .tup (.cons (.str (by decide +kernel) _) (.nil _))
  | .rd x, K, k + 2, h, hk => .tup (.cons (.str (by decide +kernel) _) (.cons (.str (sok_sh h) _) (.nil _)))
  | .wr x a, K, k + 2, h, hk => .tup (.cons (.str (by decide +kernel) _) (.cons (.str (sok_sh h.1) _) (.cons (lay_deed a K (k + 1) h.2 (by simp only [dep] at hk; omega)) (.nil _))))
  | .say a, K, k + 2, h, hk => .tup (.cons (.str (by decide +kernel) _) (.cons (lay_deed a K (k + 1) h (by simp only [dep] at hk; omega)) (.nil _)))
  | .lt x a b, K, k + 2, h, hk => .tup (.cons (.str (by decide +kernel) _) (.cons (.str (sok_1' h.1) _) (.cons (lay_deed a K (k + 1) h.2.1 (by simp only [dep] at hk; omega)) (.cons (lay_deed b (x :: K) (k + 1) h.2.2 (by simp only [dep] at hk; omega)) (.nil _)))))
  | .own x a b, K, k + 2, h, hk => .tup (.cons (.str (by decide +kernel) _) (.cons (.str (sok_2' h.1) _) (.cons (lay_deed a K (k + 1) h.2.1 (by simp only [dep] at hk; omega)) (.cons (lay_deed b (x :: K) (k + 1) h.2.2 (by simp only [dep] at hk; omega)) (.nil _)))))
  | .iff a b c, K, k + 2, h, hk => .tup (.cons (.str (by decide +kernel) _) (.cons (lay_deed a K (k + 1) h.1 (by simp only [dep] at hk; omega)) (.cons (lay_deed b K (k + 1) h.2.1 (by simp only [dep] at hk; omega)) (.cons (lay_deed c K (k + 1) h.2.2 (by simp only [dep] at hk; omega)) (.nil _)))))
  | .two w a b, K, k + 2, h, hk => .tup (.cons (.str (by cases w <;> decide +kernel) _) (.cons (lay_deed a K (k + 1) h.1 (by simp only [dep] at hk; omega)) (.cons (lay_deed b K (k + 1) h.2 (by simp only [dep] at hk; omega)) (.nil _))))
  | .call i ps hs, K, k + 2, h, hk => .tup (.cons (.str (by decide +kernel) _) (.cons (.int _ _) (.cons (.tup (lay_deeds ps K k h.2.1 (by simp only [dep] at hk; omega))) (.cons (.tup (lay_deeds hs K k h.2.2 (by simp only [dep] at hk; omega))) (.nil _)))))
theorem lay_deeds {sz : List (Nat × Nat)} : ∀ (ds : List Deed) (K : List Str) (k : Nat), okDs sz K ds → 2 * deps ds + 2 ≤ k → Lays (pyds ds) k
  | [], K, k, _, _ => .nil _
  | d :: ds, K, k, h, hk => by
    simp only [deps] at hk
    exact .cons (lay_deed d K k h.1 (by omega)) (lay_deeds ds K k h.2 (by omega))
end
structure Rule where
  ns : List Str
  hs : List Str
  b : Deed
def tstr (xs : List Str) : D := .tup (xs.map .str)
def encR (r : Rule) : D := .tup [tstr r.ns, tstr r.hs, enc r.b]
def encRs (rs : List Rule) : D := .tup (rs.map encR)
def szs (rs : List Rule) : List (Nat × Nat) := rs.map fun r => (r.ns.length, r.hs.length)
structure okRl (sz : List (Nat × Nat)) (r : Rule) : Prop where
  n : ∀ x ∈ r.ns, kd x = 1
  h : ∀ x ∈ r.hs, kd x = 3
  nn : r.ns.Nodup
  nh : r.hs.Nodup
  b : okD sz (r.ns ++ r.hs) r.b
def okRs (rs : List Rule) : Prop := ∀ i r, rs[i]? = some r → okRl (szs (rs.take i)) r
def pyR (r : Rule) : PyData := .tuple [.tuple (r.ns.map .str), .tuple (r.hs.map .str), pyd r.b]
theorem fall_map {α β γ : Type} {f : β → Option γ} {g : α → β} {h : α → γ} : ∀ {l : List α}, (∀ a ∈ l, f (g a) = some (h a)) → fall f (l.map g) = some (l.map h)
  | [], _ => rfl
  | a :: r, k => fall_cons (k a List.mem_cons_self) (fall_map fun b hb => k b (List.mem_cons_of_mem _ hb))
theorem lays_map {α : Type} {g : α → PyData} {k : Nat} : ∀ {l : List α}, (∀ a ∈ l, Lay (g a) k) → Lays (l.map g) k
  | [], _ => .nil _
  | a :: r, h => .cons (h a List.mem_cons_self) (lays_map fun b hb => h b (List.mem_cons_of_mem _ hb))
theorem frz_tstr (S : Sto) (n : Nat) (xs : List Str) : frz (n + 2) S (tstr xs) = some (.tuple (xs.map .str)) := by
  unfold tstr
  rw [frz_t, fall_map (h := PyData.str) fun a _ => frz_str]
  rfl
theorem frz_rule {S : Sto} {r : Rule} {n : Nat} (h : 2 * dep r.b + 2 ≤ n + 2) : frz (n + 3) S (encR r) = some (pyR r) := by
  unfold encR
  rw [frz_t, fall_ok (frz_tstr S n _), fall_ok (frz_tstr S n _), fall_ok (frz_enc r.b _ h), fall_nil]
  rfl
theorem lay_rule {sz : List (Nat × Nat)} {r : Rule} {k : Nat} (o : okRl sz r) (h : 2 * dep r.b + 2 ≤ k + 1) : Lay (pyR r) (k + 2) :=
  .tup (.cons (.tup (lays_map fun x hx => .str (sok_1' (o.n x hx)) _)) (.cons (.tup (lays_map fun x hx => .str (sok_3' (o.h x hx)) _)) (.cons (lay_deed r.b _ _ o.b h) (.nil _))))
end DL

set_option Elab.async false
set_option linter.all false
set_option maxRecDepth 100000
set_option maxHeartbeats 1000000
namespace DL
open PySem L2
def PurE (B : Sto) (a : Den) (ε : Env) (d : D) : Prop := ∀ S, B <+: S → ∃ E, a ε S = .ok d (S ++ E)
def PurA (B : Sto) (a : DenA) (ε : Env) (ds : List D) : Prop := ∀ S, B <+: S → ∃ E, a ε S = .ok ds (S ++ E)
def PurB (B : Sto) (a : DenB) (ε : Env) (b : Bool) : Prop := ∀ S, B <+: S → ∃ E, a ε S = .ok b (S ++ E)
def PurS (B : Sto) (a : SDen) (ε : Env) (f : Fl) : Prop := ∀ S, B <+: S → ∃ E, a ε S = .ok f (S ++ E)
theorem pre_app {B S E : Sto} (h : B <+: S) : B <+: S ++ E := h.trans (List.prefix_append _ _)
section
variable {B : Sto} {o : Op} {a b c : Den} {ba bb : DenB} {r : DenA} {ε ε' : Env} {d e x : D} {i n : Nat} {u v w : SDen} {g : GDen} {ds : List D} {f : Fn} {F : Fn} {fl : Fl} {t t' : Bool} {j : Int}
theorem pC : PurE B (dC d) ε d := fun S hS => ⟨[], by simp⟩
theorem pV (h : ε[i]? = some (some d) := by rfl) : PurE B (dVar i) ε d := fun S hS => ⟨[], by simp [h]⟩
theorem pN : PurA B dNil ε [] := fun S hS => ⟨[], by simp⟩
theorem pK (ha : PurE B a ε d) (hr : PurA B r ε ds) : PurA B (dCons a r) ε (d :: ds) := fun S hS => by
  obtain ⟨E, e1⟩ := ha S hS
  obtain ⟨E2, e2⟩ := hr (S ++ E) (pre_app hS)
  exact ⟨E ++ E2, by simp [e1, e2]⟩
theorem pT (hr : PurA B r ε ds) (h : ds.length ≤ 1000 := by simp) : PurE B (dTup r) ε (.tup ds) := fun S hS => by
  obtain ⟨E, e1⟩ := hr S hS
  exact ⟨E, by simp [e1, h]⟩
theorem pCall (hr : PurA B r ε ds) (hF : Pur (F ds) d) (h : ds.length = n := by rfl) : PurE B (dCall n F r) ε d := fun S hS => by
  obtain ⟨E, e1⟩ := hr S hS
  obtain ⟨E2, e2⟩ := hF (S ++ E)
  exact ⟨E ++ E2, by simp [e1, e2, h]⟩
theorem pO (ha : PurE B a ε d) (hb : PurE B b ε e) (h : ∀ S, o d e S = .ok x S) : PurE B (dBin o a b) ε x := fun S hS => by
  obtain ⟨E, e1⟩ := ha S hS
  obtain ⟨E2, e2⟩ := hb (S ++ E) (pre_app hS)
  exact ⟨E ++ E2, by simp [e1, e2, h]⟩
theorem pPick (hr : PurA B r ε ds) (hb : PurE B b ε (.int j)) (h : atI ds j = some x) (hl : ds.length ≤ 1000 := by simp) : PurE B (dBin oGet (dLst r) b) ε x := fun S hS => by
  obtain ⟨E, e1⟩ := hr S hS
  obtain ⟨E2, e2⟩ := hb (S ++ E ++ [.lst ds]) (pre_app (pre_app hS))
  refine ⟨E ++ [.lst ds] ++ E2, ?_⟩
  have q : (S ++ E ++ [O.lst ds] ++ E2)[(S ++ E).length]? = some (.lst ds) := by simp
  have z : oGet (.ref (S ++ E).length) (.int j) (S ++ E ++ [O.lst ds] ++ E2) = .ok x (S ++ E ++ [O.lst ds] ++ E2) := x_get (ds := ds) (by simp only [dctAt, q]) (by simp only [items, q]) h
  simp only [x_Bin, x_Lst, e1, x_bind, x_mkLst hl, e2, z]
  simp
theorem pF (hr : PurA B r ε ds) (h : ∀ S, f ds S = .ok x S) : PurE B (dFn f r) ε x := fun S hS => by
  obtain ⟨E, e1⟩ := hr S hS
  exact ⟨E, by simp [e1, h]⟩
theorem pSl0 (ha : PurE B a ε (.tup ds)) (hb : PurE B b ε (.int j)) : PurE B (dSl a (dPart b) dNoPart) ε (.tup (cutD ds (some j) none)) := fun S hS => by
  obtain ⟨E, e1⟩ := ha S hS
  obtain ⟨E2, e2⟩ := hb (S ++ E) (pre_app hS)
  exact ⟨E ++ E2, by simp [e1, e2, dPart, oSl]⟩
theorem pB (ha : PurE B a ε (.bl t)) : PurB B (dTest a) ε t := fun S hS => by
  obtain ⟨E, e1⟩ := ha S hS
  exact ⟨E, by unfold dTest; rw [e1]; rfl⟩
theorem pAnd (ha : PurB B ba ε t) (hb : t = true → PurB B bb ε t') : PurB B (bAnd ba bb) ε (t && t') := fun S hS => by
  obtain ⟨E, e1⟩ := ha S hS
  cases t with
  | false => exact ⟨E, by simp [e1]⟩
  | true =>
    obtain ⟨E2, e2⟩ := hb rfl (S ++ E) (pre_app hS)
    exact ⟨E ++ E2, by simp [e1, e2]⟩
theorem pAndB {r : Bool} (ha : PurB B ba ε t) (hb : t = true → PurB B bb ε t') (h : (t && t') = r) : PurB B (bAnd ba bb) ε r := by
  rw [← h]
  exact pAnd ha hb
theorem pOr (ha : PurB B ba ε t) (hb : t = false → PurB B bb ε t') : PurB B (bOr ba bb) ε (t || t') := fun S hS => by
  obtain ⟨E, e1⟩ := ha S hS
  cases t with
  | true => exact ⟨E, by simp [e1]⟩
  | false =>
    obtain ⟨E2, e2⟩ := hb rfl (S ++ E) (pre_app hS)
    exact ⟨E ++ E2, by simp [e1, e2]⟩
theorem pOrB {r : Bool} (ha : PurB B ba ε t) (hb : t = false → PurB B bb ε t') (h : (t || t') = r) : PurB B (bOr ba bb) ε r := by
  rw [← h]
  exact pOr ha hb
theorem pRet (ha : PurE B a ε d) : PurS B (sRet a) ε (.rt d) := fun S hS => by
  obtain ⟨E, e1⟩ := ha S hS
  exact ⟨E, by simp [e1]⟩
theorem pLet (ha : PurE B a ε d) (hg : ∀ S, g d ε S = some ε') (hw : PurS B w ε' fl) : PurS B (sSeq (sAsg a g) w) ε fl := fun S hS => by
  obtain ⟨E, e1⟩ := ha S hS
  obtain ⟨E2, e2⟩ := hw (S ++ E) (pre_app hS)
  exact ⟨E ++ E2, by simp [e1, hg, e2]⟩
theorem pAsg (ha : PurE B a ε d) (hg : ∀ S, g d ε S = some ε') : PurS B (sAsg a g) ε (.nx ε') := fun S hS => by
  obtain ⟨E, e1⟩ := ha S hS
  exact ⟨E, by simp [e1, hg]⟩
theorem pSkip (hc : PurB B ba ε false) (hw : PurS B w ε fl) : PurS B (sSeq (sIf ba u sNil) w) ε fl := fun S hS => by
  obtain ⟨E, e1⟩ := hc S hS
  obtain ⟨E2, e2⟩ := hw (S ++ E) (pre_app hS)
  exact ⟨E ++ E2, by simp [e1, e2]⟩
theorem pTake (hc : PurB B ba ε true) (hu : PurS B u ε (.rt d)) : PurS B (sSeq (sIf ba u v) w) ε (.rt d) := fun S hS => by
  obtain ⟨E, e1⟩ := hc S hS
  obtain ⟨E2, e2⟩ := hu (S ++ E) (pre_app hS)
  exact ⟨E ++ E2, by simp [e1, e2]⟩
theorem pSeq (hu : PurS B u ε (.nx ε')) (hw : PurS B w ε' fl) : PurS B (sSeq u w) ε fl := fun S hS => by
  obtain ⟨E, e1⟩ := hu S hS
  obtain ⟨E2, e2⟩ := hw (S ++ E) (pre_app hS)
  exact ⟨E ++ E2, by simp [e1, e2]⟩
def PurR (B : Sto) (f : Sto → R D) (d : D) : Prop := ∀ S, B <+: S → ∃ E, f S = .ok d (S ++ E)
theorem Pur.rel {f : Sto → R D} (h : Pur f d) : PurR B f d := fun S _ => h S
theorem PurR.at {f : Sto → R D} (h : PurR [] f d) : Pur f d := fun S => h S (List.nil_prefix)
theorem pur_runR {np nN : Nat} {b : SDen} (h : PurS B b (ds.map some ++ List.replicate (nN - np) none) (.rt d)) (hl : ds.length = np := by rfl) : PurR B (runFn np nN b ds) d := fun S hS => by
  obtain ⟨E, e1⟩ := h S hS
  exact ⟨E, by rw [runFn_fin hl, e1]; rfl⟩
theorem pur_run {np nN : Nat} {b : SDen} (h : PurS [] b (ds.map some ++ List.replicate (nN - np) none) (.rt d)) (hl : ds.length = np := by rfl) : Pur (runFn np nN b ds) d := (pur_runR h hl).at
theorem pCallR (hr : PurA B r ε ds) (hF : PurR B (F ds) d) (h : ds.length = n := by rfl) : PurE B (dCall n F r) ε d := fun S hS => by
  obtain ⟨E, e1⟩ := hr S hS
  obtain ⟨E2, e2⟩ := hF (S ++ E) (pre_app hS)
  exact ⟨E ++ E2, by simp [e1, e2, h]⟩
end
variable {B : Sto}
def scr (ns : List Int) : D := .seq (ns.map D.int)
theorem pDrawn {n : Nat} {ns : List Int} {k m : Int} {ε : Env} {a b c : Den} (hl : ns.length ≤ 63) (hk : 0 ≤ k) (hm : 0 < m) (ha : PurE B a ε (scr ns)) (hb : PurE B b ε (.int k)) (hc : PurE B c ε (.int m)) : PurE B (dCall 3 (csem (n + 3) .f__law_drawn) (dCons a (dCons b (dCons c dNil)))) ε (.int (drw ns k m)) :=
  pCall (pK ha (pK hb (pK hc pN))) (drawn_sem n ns k m hk hm hl)
theorem drw_pick {α : Type} (ns : List Int) (k : Int) {l : List α} (h : l ≠ []) : ∃ x ∈ l, atI l (drw ns k l.length) = some x := by
  have hp : 0 < (l.length : Int) := by have := List.length_pos_iff.mpr h; omega
  have h0 := drw_lo ns k hp
  have h1 := drw_hi ns k hp
  have h2 : (drw ns k l.length).toNat < l.length := by omega
  exact ⟨l[(drw ns k l.length).toNat], List.getElem_mem h2, by rw [atI_in h0 h1, List.getElem?_eq_getElem h2]⟩
theorem atI_map {α β : Type} {f : α → β} {l : List α} {i : Int} {x : α} (h : atI l i = some x) : atI (l.map f) i = some (f x) := by
  unfold atI at h ⊢
  rw [List.length_map]
  cases e : ixN l.length i with
  | none => rw [e] at h; cases h
  | some j =>
    rw [e] at h
    have h' : l[j]? = some x := h
    show (l.map f)[j]? = some (f x)
    rw [List.getElem?_map, h']
    rfl
theorem oNe_nil {ds : List D} {p : List PyData} {k : Nat} {S : Sto} (h : fall (frz 39 S) ds = some p) (hp : Lays p k) (hk : k ≤ 63) : oNe (.tup ds) (.tup []) S = .ok (.bl (!decide (ds = []))) S := by
  have e1 : frz deep S (.tup ds) = some (.tuple p) := by
    show frz (39 + 1) S (.tup ds) = _
    rw [frz_t, h]
    rfl
  unfold oNe
  rw [dEq_frz rfl e1 (show frz deep S (.tup []) = some (.tuple []) from rfl) ((Lay.tup hp).shaped (by omega)) ((Lay.tup (Lays.nil 0)).shaped (by decide))]
  have hl : p = [] ↔ ds = [] := by
    cases ds with
    | nil => have e : some [] = some p := h; cases e; simp
    | cons a r =>
      simp only [reduceCtorEq, iff_false]
      rintro rfl
      unfold fall at h
      split at h <;> cases h
  have e3 : PyData.eqv (.tuple p) (.tuple []) = decide (ds = []) := by
    rw [PyData.eqv]
    cases p with
    | nil => simp [hl.mp rfl, PyData.eqvAll]
    | cons a r =>
      have : ds ≠ [] := fun q => by have := hl.mpr q; cases this
      simp [this, PyData.eqvAll]
  rw [e3]
theorem pNe_str {xs : List Str} {a : Den} {ε : Env} (h : ∀ x ∈ xs, sok x = true) (ha : PurE B a ε (tstr xs)) : PurE B (dBin oNe a (dTup dNil)) ε (.bl (!decide (xs = []))) :=
  pO ha (pT pN) fun S => by
    have e := oNe_nil (S := S) (k := 1) (fall_map (f := frz 39 S) (g := D.str) (h := PyData.str) fun a _ => frz_str) (lays_map fun x hx => .str (h x hx) 1) (by decide)
    unfold tstr
    rw [e]
    simp
def encK (ns os hs : List Str) : D := .tup [tstr ns, tstr os, tstr hs]
structure KnOk (ns os hs : List Str) : Prop where
  n : ∀ x ∈ ns, kd x = 1
  o : ∀ x ∈ os, kd x = 2
  h : ∀ x ∈ hs, kd x = 3
  ln : ns.length ≤ 100
  lo : os.length ≤ 100
  lh : hs.length ≤ 100
def shv (os : List Str) : List Str := abcd ++ (os ++ (os ++ os))
theorem pShv {os : List Str} {a : Den} {ε : Env} (hl : os.length ≤ 100) (ha : PurE B a ε (tstr os)) : PurE B (dBin oAdd (dTup (dCons (dC (.str "a")) (dCons (dC (.str "b")) (dCons (dC (.str "c")) (dCons (dC (.str "d")) dNil))))) (dBin oMul a (dC (.int 3)))) ε (tstr (shv os)) := by
  have h1 : PurE B (dBin oMul a (dC (.int 3))) ε (tstr (os ++ (os ++ os))) := pO ha pC fun S => by
    unfold tstr oMul
    by_cases h : os = []
    · subst h; simp
    · simp [h, show os.length ≤ 1000 by omega, List.replicate_succ]
  refine pO (pT (pK pC (pK pC (pK pC (pK pC pN))))) h1 fun S => ?_
  have hb : 4 + (os ++ (os ++ os)).length ≤ big := by simp [big]; omega
  unfold tstr oAdd shv abcd
  simp only [List.length_map, List.length_cons, List.length_nil, Nat.zero_add, Nat.reduceAdd]
  rw [if_pos hb]
  simp
theorem shv_ok {ns os hs : List Str} {x : Str} (k : KnOk ns os hs) (h : x ∈ shv os) : (x ∈ ns ++ os ++ hs ∧ kd x = 2) ∨ x ∈ abcd := by
  unfold shv at h
  rcases List.mem_append.mp h with h | h
  · exact .inr h
  · have : x ∈ os := by simpa using h
    exact .inl ⟨by simp [this], k.o x this⟩
theorem pLenT {xs : List Str} {a : Den} {ε : Env} (ha : PurE B a ε (tstr xs)) : PurE B (dFn fLen (dCons a dNil)) ε (.int xs.length) := pF (pK ha pN) fun S => by
  unfold tstr
  simp
theorem pGetT {xs : List Str} {i : Int} {x : Str} {a b : Den} {ε : Env} (ha : PurE B a ε (tstr xs)) (hb : PurE B b ε (.int i)) (h : atI xs i = some x) : PurE B (dBin oGet a b) ε (.str x) := pO ha hb fun S => by
  unfold tstr
  simp [atI_map h]
theorem pAdd {a b : Den} {ε : Env} {i j : Int} (ha : PurE B a ε (.int i)) (hb : PurE B b ε (.int j)) : PurE B (dBin oAdd a b) ε (.int (i + j)) := pO ha hb fun _ => rfl
theorem pSub {a b : Den} {ε : Env} {i j : Int} (ha : PurE B a ε (.int i)) (hb : PurE B b ε (.int j)) : PurE B (dBin oSub a b) ε (.int (i - j)) := pO ha hb fun _ => rfl
theorem pMulR {a b : Den} {ε : Env} {i j : Int} (ha : PurE B a ε (.int i)) (hb : PurE B b ε (.int j)) (h : -(2 ^ 64) < j ∧ j < 2 ^ 64 := by decide) : PurE B (dBin oMul a b) ε (.int (i * j)) := pO ha hb fun _ => by
  rw [x_mulI, if_pos (.inr h)]
theorem pMulL {a b : Den} {ε : Env} {i j : Int} (ha : PurE B a ε (.int i)) (hb : PurE B b ε (.int j)) (h : -(2 ^ 64) < i ∧ i < 2 ^ 64 := by decide) : PurE B (dBin oMul a b) ε (.int (i * j)) := pO ha hb fun _ => by
  rw [x_mulI, if_pos (.inl h)]
theorem pLtI {a b : Den} {ε : Env} {i j : Int} {t : Bool} (ha : PurE B a ε (.int i)) (hb : PurE B b ε (.int j)) (h : decide (i < j) = t) : PurB B (dTest (dBin oLt a b)) ε t := pB (pO ha hb fun _ => by rw [x_ltI, h])
theorem pEqI {a b : Den} {ε : Env} {i j : Int} {t : Bool} (ha : PurE B a ε (.int i)) (hb : PurE B b ε (.int j)) (h : decide (i = j) = t) : PurB B (dTest (dBin oEq a b)) ε t := pB (pO ha hb fun _ => by rw [x_eqI, h])
theorem leaf_sem (n : Nat) (ns : List Int) (t : Int) {nm os hs : List Str} (sz : List (Nat × Nat)) (ht : 0 ≤ t) (hl : ns.length ≤ 63) (k : KnOk nm os hs) : ∃ d, Pur (csem (n + 4) .f__law_leaf [scr ns, .int t, encK nm os hs]) (enc d) ∧ okD sz (nm ++ os ++ hs) d ∧ dep d = 0 := by
  rw [cs_f__law_leaf]
  have w0 := drw_lo ns t (m := 8) (by decide)
  have w1 := drw_hi ns t (m := 8) (by decide)
  generalize hw : drw ns t 8 = w at w0 w1
  have hK : ∀ S, gT 3 (gsCons (gN 3) (gsCons (gN 4) (gsCons (gN 5) gsNil))) (encK nm os hs) [some (scr ns), some (D.int t), some (encK nm os hs), none, none, none, none, none] S = some [some (scr ns), some (D.int t), some (encK nm os hs), some (tstr nm), some (tstr os), some (tstr hs), none, none] := fun S => rfl
  have beg : ∀ {fl : Fl} {rest : SDen}, PurS [] rest [some (scr ns), some (D.int t), some (encK nm os hs), some (tstr nm), some (tstr os), some (tstr hs), some (.int w), none] fl →
      PurS [] (sSeq (sAsg (dVar 2) (gT 3 (gsCons (gN 3) (gsCons (gN 4) (gsCons (gN 5) gsNil))))) (sSeq (sAsg (dCall 3 (csem (n + 3) .f__law_drawn) (dCons (dVar 0) (dCons (dVar 1) (dCons (dC (.int 8)) dNil)))) (gN 6)) rest)) [some (scr ns), some (D.int t), some (encK nm os hs), none, none, none, none, none] fl := fun h => by
    refine pLet pV hK (pLet (pDrawn hl ht (by decide) pV pV pC) (fun S => rfl) ?_)
    rw [hw]
    exact h
  have t1 : (0 : Int) ≤ t + 1 := by omega
  by_cases c1 : w < 2
  · obtain ⟨v, hv, hp⟩ := drw_pick ns (t + 1) (l := ([0, 1, 2, 3, 7, 1008] : List Int)) (by simp)
    have hv' : 0 ≤ v ∧ v ≤ 1008 := by simp at hv; omega
    refine ⟨.num v, pur_run (beg (pTake (pLtI pV pC (by simp [c1])) (pRet (pT (pK pC (pK ?_ pN)))))), hv', rfl⟩
    refine pPick (pK pC (pK pC (pK pC (pK pC (pK pC (pK pC pN)))))) (pDrawn hl t1 (by decide) pV (pAdd pV pC) pC) ?_
    exact atI_map (f := D.int) hp
  have s1 : PurB [] (dTest (dBin oLt (dVar 6) (dC (.int 2)))) [some (scr ns), some (D.int t), some (encK nm os hs), some (tstr nm), some (tstr os), some (tstr hs), some (.int w), none] false := pLtI pV pC (by simp [c1])
  have sokn : ∀ x ∈ nm, sok x = true := fun x hx => sok_1' (k.n x hx)
  have sokh : ∀ x ∈ hs, sok x = true := fun x hx => sok_3' (k.h x hx)
  by_cases c2 : w = 2 ∧ nm ≠ []
  · obtain ⟨v, hv, hp⟩ := drw_pick ns (t + 1) c2.2
    have hm : 0 < (nm.length : Int) := by have := List.length_pos_iff.mpr c2.2; omega
    refine ⟨.nam v, pur_run (beg (pSkip s1 (pTake ?_ (pRet (pT (pK pC (pK ?_ pN))))))), ⟨by simp [hv], k.n v hv⟩, rfl⟩
    · exact pAndB (pEqI pV pC rfl) (fun _ => pB (pNe_str sokn pV)) (by simp [c2.1, c2.2])
    · exact pGetT pV (pDrawn hl t1 hm pV (pAdd pV pC) (pLenT pV)) hp
  have s2 : PurB [] (bAnd (dTest (dBin oEq (dVar 6) (dC (.int 2)))) (dTest (dBin oNe (dVar 3) (dTup dNil)))) [some (scr ns), some (D.int t), some (encK nm os hs), some (tstr nm), some (tstr os), some (tstr hs), some (.int w), none] false :=
    pAndB (pEqI pV pC rfl) (fun _ => pB (pNe_str sokn pV)) (by by_cases q : w = 2 <;> simp_all)
  by_cases c3 : w = 3 ∧ hs ≠ []
  · obtain ⟨v, hv, hp⟩ := drw_pick ns (t + 1) c3.2
    have hm : 0 < (hs.length : Int) := by have := List.length_pos_iff.mpr c3.2; omega
    refine ⟨.dod v, pur_run (beg (pSkip s1 (pSkip s2 (pTake ?_ (pRet (pT (pK pC (pK ?_ pN)))))))), ⟨by simp [hv], k.h v hv⟩, rfl⟩
    · exact pAndB (pEqI pV pC rfl) (fun _ => pB (pNe_str sokh pV)) (by simp [c3.1, c3.2])
    · exact pGetT pV (pDrawn hl t1 hm pV (pAdd pV pC) (pLenT pV)) hp
  have s3 : PurB [] (bAnd (dTest (dBin oEq (dVar 6) (dC (.int 3)))) (dTest (dBin oNe (dVar 5) (dTup dNil)))) [some (scr ns), some (D.int t), some (encK nm os hs), some (tstr nm), some (tstr os), some (tstr hs), some (.int w), none] false :=
    pAndB (pEqI pV pC rfl) (fun _ => pB (pNe_str sokh pV)) (by by_cases q : w = 3 <;> simp_all)
  by_cases c4 : w = 4
  · exact ⟨.ask, pur_run (beg (pSkip s1 (pSkip s2 (pSkip s3 (pTake (pEqI pV pC (by simp [c4])) (pRet (pT (pK pC pN)))))))), trivial, rfl⟩
  · have hne : shv os ≠ [] := by simp [shv, abcd]
    obtain ⟨v, hv, hp⟩ := drw_pick ns (t + 1) hne
    have hm : 0 < ((shv os).length : Int) := by have := List.length_pos_iff.mpr hne; omega
    refine ⟨.rd v, pur_run (beg (pSkip s1 (pSkip s2 (pSkip s3 (pSkip (pEqI pV pC (by simp [c4])) (pLet (pShv k.lo pV) (fun _ => rfl) (pRet (pT (pK pC (pK ?_ pN)))))))))), shv_ok k hv, rfl⟩
    exact pGetT pV (pDrawn hl t1 hm pV (pAdd pV pC) (pLenT pV)) hp
theorem pNe_rules {rs : List Rule} {a : Den} {ε : Env} (o : okRs rs) (hd : ∀ r ∈ rs, dep r.b ≤ 10) (ha : PurE B a ε (encRs rs)) : PurE B (dBin oNe a (dTup dNil)) ε (.bl (!decide (rs = []))) :=
  pO ha (pT pN) fun S => by
    have e := oNe_nil (S := S) (k := 40) (fall_map (f := frz 39 S) (g := encR) (h := pyR) fun r hr => frz_rule (n := 36) (by have := hd r hr; omega)) (lays_map fun r hr => by
      obtain ⟨i, hi⟩ := List.getElem?_of_mem hr
      exact (lay_rule (k := 30) (o i r hi) (by have := hd r hr; omega)).mono (by omega)) (by decide)
    unfold encRs
    rw [e]
    simp
theorem pGetRule {rs : List Rule} {i : Int} {r : Rule} {a b : Den} {ε : Env} (ha : PurE B a ε (encRs rs)) (hb : PurE B b ε (.int i)) (h : atI rs i = some r) : PurE B (dBin oGet a b) ε (encR r) := pO ha hb fun S => by
  unfold encRs
  simp [atI_map h]
theorem pGet {ds : List D} {i : Int} {x : D} {a b : Den} {ε : Env} (ha : PurE B a ε (.tup ds)) (hb : PurE B b ε (.int i)) (h : atI ds i = some x := by simp) : PurE B (dBin oGet a b) ε x := pO ha hb fun S => by
  simp [h]
end DL

set_option Elab.async false
set_option linter.all false
set_option maxRecDepth 100000
set_option maxHeartbeats 1000000
namespace DL
open PySem L2
theorem nums_get {m i : Nat} : (nums 0 m)[i]? = if i < m then some (.int (i : Int)) else none := by
  unfold nums
  rw [List.getElem?_map]
  by_cases h : i < m
  · rw [if_pos h, List.getElem?_eq_getElem (by simpa using h)]
    simp
  · rw [if_neg h, List.getElem?_eq_none (by simpa using h)]
    rfl
theorem mid_get {α : Type} {A B : List α} {x : α} : (A ++ [x] ++ B)[A.length]? = some x := by simp
theorem mid_set {α : Type} {A B : List α} {x y : α} : (A ++ [x] ++ B).set A.length y = A ++ [y] ++ B := by simp
theorem for_app {m jl jv : Nat} {A : Sto} {ε : Env} {dd : Nat → D} {a : Den} (hl : ε[jl]? = some (some (.ref A.length))) (hn : jl ≠ jv) (hm : m ≤ 1000) (ha : ∀ k : Nat, PurE [] a (ε.set jv (some (.int k))) (dd k)) :
    ∀ (c i : Nat) (v : Option D) (B : Sto), i + c = m → ∃ v' B', forI (fun _ => some (nums 0 m)) (gN jv) (sExpr (dAppend (dVar jl) a)) (c + 1) i (ε.set jv v) (A ++ [.lst ((List.range i).map dd)] ++ B) = .ok (.nx (ε.set jv v')) (A ++ [.lst ((List.range m).map dd)] ++ B')
  | 0, i, v, B, h => by
    obtain rfl : i = m := by omega
    refine ⟨v, B, ?_⟩
    unfold forI
    simp only [nums_get, if_neg (Nat.lt_irrefl i)]
  | c + 1, i, v, B, h => by
    obtain ⟨E, e⟩ := ha i (A ++ [.lst ((List.range i).map dd)] ++ B) List.nil_prefix
    obtain ⟨v', B', r⟩ := for_app hl hn hm ha c (i + 1) (some (.int i)) (B ++ E) (by omega)
    refine ⟨v', B', ?_⟩
    unfold forI
    have hv : dVar jl (ε.set jv (some (D.int i))) (A ++ [O.lst ((List.range i).map dd)] ++ B) = .ok (.ref A.length) (A ++ [O.lst ((List.range i).map dd)] ++ B) := x_Var (by rw [List.getElem?_set_ne (Ne.symm hn)]; exact hl)
    have g1 : lstAt (A ++ [O.lst ((List.range i).map dd)] ++ B) (.ref A.length) = some (A.length, (List.range i).map dd) := by
      unfold lstAt
      simp only [mid_get]
    have g2 : lstAt (A ++ [O.lst ((List.range i).map dd)] ++ B ++ E) (.ref A.length) = some (A.length, (List.range i).map dd) := by
      unfold lstAt
      rw [List.append_assoc]
      simp only [mid_get]
    have hb : ((List.range i).map dd).length < big := by rw [List.length_map, List.length_range]; exact Nat.lt_of_lt_of_le (show i < 1001 by omega) (by decide)
    have st : (A ++ [O.lst ((List.range i).map dd)] ++ B ++ E).set A.length (.lst ((List.range i).map dd ++ [dd i])) = A ++ [.lst ((List.range (i + 1)).map dd)] ++ (B ++ E) := by
      rw [List.append_assoc, mid_set, List.range_succ, List.map_append]
      rfl
    have body : sExpr (dAppend (dVar jl) a) (ε.set jv (some (D.int i))) (A ++ [O.lst ((List.range i).map dd)] ++ B) = .ok (.nx (ε.set jv (some (D.int i)))) (A ++ [.lst ((List.range (i + 1)).map dd)] ++ (B ++ E)) := by
      rw [x_Expr]
      unfold dAppend
      simp only [hv, x_bind, g1, e, g2, if_pos hb, st, x_sE]
    simp only [nums_get, if_pos (show i < m by omega), x_gN, List.set_set, body]
    exact r
theorem oSl_lo {S : Sto} {n : Nat} {ds : List D} {k : Nat} (h : S[n]? = some (.lst ds)) (hd : ds.length ≤ 1000) (hk : k ≤ ds.length) : oSl (.ref n) none (some (k : Int)) S = .ok (.ref S.length) (S ++ [.lst (ds.take k)]) := by
  unfold oSl
  simp only [h]
  rw [if_pos (Nat.le_trans hd (by decide))]
  unfold cutD
  rw [HT.sIx_nat, HT.sIx_none, Nat.min_eq_left hk]
  simp
theorem oSl_hi {S : Sto} {n : Nat} {ds : List D} {k : Nat} (h : S[n]? = some (.lst ds)) (hd : ds.length ≤ 1000) (hk : k ≤ ds.length) : oSl (.ref n) (some (k : Int)) none S = .ok (.ref S.length) (S ++ [.lst (ds.drop k)]) := by
  unfold oSl
  simp only [h]
  rw [if_pos (Nat.le_trans hd (by decide))]
  unfold cutD
  rw [HT.sIx_nat, HT.sIx_none, Nat.min_eq_left hk]
  congr 4
  rw [List.take_of_length_le]
  simp
theorem fTuple_ref {S : Sto} {n : Nat} {ds : List D} (h : S[n]? = some (.lst ds)) : fTuple [.ref n] S = .ok (.tup ds) S := by
  unfold fTuple items
  simp only [h]
theorem okR_of {i : Int} (h : 0 ≤ i) (h2 : i ≤ 100000) : okR i := by
  unfold okR
  constructor <;> omega
theorem iRange1_of {a : Den} {ε : Env} {S S' : Sto} {j : Int} (h : okR j) (ha : a ε S = .ok (.int j) S') : iRange1 a ε S = .ok (fun _ => some (nums 0 j.toNat)) S' := by
  unfold iRange1
  rw [ha, x_bind]
  show (if okR j then _ else _) = _
  rw [if_pos h]
theorem sFor_of {it : IDen} {g : GDen} {b : SDen} {ε ε' : Env} {S S1 S2 : Sto} {m : Nat} (hi : it ε S = .ok (fun _ => some (nums 0 m)) S1) (hf : forI (fun _ => some (nums 0 m)) g b (m + 1) 0 ε S1 = .ok (.nx ε') S2) : sFor it g b ε S = .ok (.nx ε') S2 := by
  unfold sFor
  rw [hi, x_sE]
  show forI _ g b ((nums 0 m).length + 1) 0 ε S1 = _
  rw [nums_len]
  exact hf
theorem getLast_app {α : Type} {A : List α} {x : α} : (A ++ [x])[A.length]? = some x := by simp
theorem call_sem (n deep : Nat) (ns : List Int) (t : Int) {kn : D} {K : List Str} {rs : List Rule} (ht : 0 ≤ t) (hl : ns.length ≤ 63) (hr : rs ≠ []) (hs : ∀ r ∈ rs, r.ns.length ≤ 100 ∧ r.hs.length ≤ 100)
    (ih : ∀ t : Int, 0 ≤ t → ∃ d, Pur (csem (n + 3) .f__law_deed [scr ns, .int t, .int deep, kn, encRs rs]) (enc d) ∧ okD (szs rs) K d ∧ dep d ≤ deep) :
    ∃ d, Pur (csem (n + 4) .f__law_call [scr ns, .int t, .int ((deep : Int) + 1), kn, encRs rs]) (enc d) ∧ okD (szs rs) K d ∧ dep d ≤ deep + 1 := by
  obtain ⟨r, hrm, hpick⟩ := drw_pick ns (t + 3) hr
  have hlen : 0 < (rs.length : Int) := by have := List.length_pos_iff.mpr hr; omega
  obtain ⟨h1, h2⟩ := hs r hrm
  have w0 := drw_lo ns (t + 3) hlen
  have w1 := drw_hi ns (t + 3) hlen
  generalize hw : drw ns (t + 3) (rs.length : Int) = w at w0 w1 hpick
  let dd : Nat → Deed := fun k => Classical.choose (ih (t * 3 + 7 + 5 * (k : Int)) (by omega))
  have hdd : ∀ k : Nat, Pur (csem (n + 3) .f__law_deed [scr ns, .int (t * 3 + 7 + 5 * (k : Int)), .int deep, kn, encRs rs]) (enc (dd k)) ∧ okD (szs rs) K (dd k) ∧ dep (dd k) ≤ deep := fun k => Classical.choose_spec (ih (t * 3 + 7 + 5 * (k : Int)) (by omega))
  clear_value dd
  let m := r.ns.length + r.hs.length
  let ds : List Deed := (List.range m).map dd
  have hds : ∀ d ∈ ds, okD (szs rs) K d ∧ dep d ≤ deep := fun d hd => by
    obtain ⟨k, _, rfl⟩ := List.mem_map.mp hd
    exact (hdd k).2
  have dsl : ds.length = m := by simp [ds]
  have deps_le : ∀ xs : List Deed, (∀ d ∈ xs, dep d ≤ deep) → deps xs ≤ deep := by
    intro xs
    induction xs with
    | nil => intro _; exact Nat.zero_le _
    | cons a b q => intro h; exact Nat.max_le.mpr ⟨h a List.mem_cons_self, q fun d hd => h d (List.mem_cons_of_mem _ hd)⟩
  refine ⟨.call w.toNat (ds.take r.ns.length) (ds.drop r.ns.length), ?_, ⟨?_, okDs_iff.mpr fun d hd => (hds d (List.mem_of_mem_take hd)).1, okDs_iff.mpr fun d hd => (hds d (List.mem_of_mem_drop hd)).1⟩, ?_⟩
  · have hrw : (w.toNat : Int) = w := by omega
    rw [cs_f__law_call]
    refine pur_run ?_
    unfold b_f__law_call
    have t3 : (0 : Int) ≤ t + 3 := by omega
    refine pLet (pDrawn hl t3 hlen pV (pAdd pV pC) ?_) (fun S => rfl) ?_
    · exact pF (pK pV pN) fun S => by unfold encRs; simp
    rw [hw]
    refine pLet (pLenT (xs := r.ns) (pGet (pGetRule pV pV hpick) pC)) (fun S => rfl) ?_
    intro S _
    have ev : (List.map some [scr ns, D.int t, D.int ((deep : Int) + 1), kn, encRs rs] ++ List.replicate (9 - 5) none).set 5 (some (D.int w)) = [some (scr ns), some (D.int t), some (D.int ((deep : Int) + 1)), some kn, some (encRs rs), some (.int w), none, none, none] := rfl
    simp only [ev, List.set_cons_succ, List.set_cons_zero, x_Seq, x_Asg, x_Lst, x_Nil, x_bind, x_mkLst (show ([] : List D).length ≤ 1000 by decide), x_sE, x_gN, x_sN]
    -- the loop's bound
    have hm : PurE [] (dBin oAdd (dVar 6) (dFn fLen (dCons (dBin oGet (dBin oGet (dVar 4) (dVar 5)) (dC (.int 1))) dNil))) [some (scr ns), some (D.int t), some (D.int ((deep : Int) + 1)), some kn, some (encRs rs), some (.int w), some (.int r.ns.length), some (.ref S.length), none] (.int ((r.ns.length : Int) + (r.hs.length : Int))) :=
      pAdd pV (pLenT (xs := r.hs) (pGet (pGetRule pV pV hpick) pC))
    obtain ⟨E0, e0⟩ := hm (S ++ [.lst []]) List.nil_prefix
    have ok1 : okR ((r.ns.length : Int) + (r.hs.length : Int)) := okR_of (by omega) (by omega)
    have emi : ((r.ns.length : Int) + (r.hs.length : Int)).toNat = m := by omega
    obtain ⟨v', B', loop⟩ := for_app (m := m) (jl := 7) (jv := 8) (A := S) (ε := [some (scr ns), some (D.int t), some (D.int ((deep : Int) + 1)), some kn, some (encRs rs), some (.int w), some (.int r.ns.length), some (.ref S.length), none]) (dd := fun k => enc (dd k))
      (a := dCall 5 (csem (n + 3) .f__law_deed) (dCons (dVar 0) (dCons (dBin oAdd (dBin oAdd (dBin oMul (dVar 1) (dC (.int 3))) (dC (.int 7))) (dBin oMul (dC (.int 5)) (dVar 8))) (dCons (dBin oSub (dVar 2) (dC (.int 1))) (dCons (dVar 3) (dCons (dVar 4) dNil))))))
      rfl (by decide) (by omega) (fun k => by
        refine pCall (pK pV (pK (pAdd (pAdd (pMulR pV pC) pC) (pMulL pC (pV (d := .int k)))) (pK (pSub pV pC) (pK pV (pK pV pN))))) ?_
        have e : (deep : Int) + 1 - 1 = deep := by omega
        rw [e]
        exact (hdd k).1) m 0 none E0 (by omega)
    have hlst : (List.range m).map (fun k => enc (dd k)) = encs ds := by simp [ds, encs_map, Function.comp_def]
    rw [hlst] at loop
    have floop : sFor (iRange1 (dBin oAdd (dVar 6) (dFn fLen (dCons (dBin oGet (dBin oGet (dVar 4) (dVar 5)) (dC (.int 1))) dNil)))) (gN 8) (sExpr (dAppend (dVar 7) (dCall 5 (csem (n + 3) .f__law_deed) (dCons (dVar 0) (dCons (dBin oAdd (dBin oAdd (dBin oMul (dVar 1) (dC (.int 3))) (dC (.int 7))) (dBin oMul (dC (.int 5)) (dVar 8))) (dCons (dBin oSub (dVar 2) (dC (.int 1))) (dCons (dVar 3) (dCons (dVar 4) dNil))))))))
        [some (scr ns), some (D.int t), some (D.int ((deep : Int) + 1)), some kn, some (encRs rs), some (.int w), some (.int r.ns.length), some (.ref S.length), none] (S ++ [.lst []]) = .ok (.nx [some (scr ns), some (D.int t), some (D.int ((deep : Int) + 1)), some kn, some (encRs rs), some (.int w), some (.int r.ns.length), some (.ref S.length), v']) (S ++ [.lst (encs ds)] ++ B') := by
      have it := iRange1_of ok1 e0
      rw [emi] at it
      exact sFor_of it loop
    rw [floop]
    have g1 : (S ++ [O.lst (encs ds)] ++ B')[S.length]? = some (.lst (encs ds)) := mid_get
    have el : (encs ds).length = m := by rw [encs_map, List.length_map, dsl]
    have a1 := oSl_lo (k := r.ns.length) g1 (by omega) (by omega)
    have g2 : (S ++ [O.lst (encs ds)] ++ B' ++ [O.lst ((encs ds).take r.ns.length)])[S.length]? = some (.lst (encs ds)) := by
      rw [List.getElem?_append_left (List.getElem?_eq_some_iff.mp g1).1]
      exact g1
    have a2 := oSl_hi (k := r.ns.length) g2 (by omega) (by omega)
    refine ⟨[O.lst (encs ds)] ++ B' ++ [O.lst ((encs ds).take r.ns.length)] ++ [O.lst ((encs ds).drop r.ns.length)], ?_⟩
    have f1 := fTuple_ref (getLast_app (A := S ++ [O.lst (encs ds)] ++ B') (x := O.lst ((encs ds).take r.ns.length)))
    have f2 := fTuple_ref (getLast_app (A := S ++ [O.lst (encs ds)] ++ B' ++ [O.lst ((encs ds).take r.ns.length)]) (x := O.lst ((encs ds).drop r.ns.length)))
    have v5 : dVar 5 [some (scr ns), some (D.int t), some (D.int ((deep : Int) + 1)), some kn, some (encRs rs), some (.int w), some (.int r.ns.length), some (.ref S.length), v'] = fun S => .ok (.int w) S := rfl
    have v6 : dVar 6 [some (scr ns), some (D.int t), some (D.int ((deep : Int) + 1)), some kn, some (encRs rs), some (.int w), some (.int r.ns.length), some (.ref S.length), v'] = fun S => .ok (.int r.ns.length) S := rfl
    have v7 : dVar 7 [some (scr ns), some (D.int t), some (D.int ((deep : Int) + 1)), some kn, some (encRs rs), some (.int w), some (.int r.ns.length), some (.ref S.length), v'] = fun S' => .ok (.ref S.length) S' := rfl
    simp only [x_sN, x_Ret, x_Tup, x_Cons, x_C, x_bind, v5, v6, v7, x_Fn, x_Sl, x_NoPart, dPart, a1, a2, f1, f2, x_Nil, x_mkTup (show [D.str "call", D.int w, D.tup ((encs ds).take r.ns.length), D.tup ((encs ds).drop r.ns.length)].length ≤ 1000 by simp), x_sE]
    rw [enc, encs_map, encs_map, encs_map, List.map_take, List.map_drop, hrw]
    simp
  · have q : rs[w.toNat]? = some r := by
      rw [atI_in w0 (by omega)] at hpick
      exact hpick
    unfold szs
    rw [List.getElem?_map, q]
    simp only [Option.map_some, Option.some.injEq, Prod.mk.injEq, List.length_take, List.length_drop, dsl]
    omega
  · simp only [dep]
    have a := deps_le (ds.take r.ns.length) fun d hd => (hds d (List.mem_of_mem_take hd)).2
    have b := deps_le (ds.drop r.ns.length) fun d hd => (hds d (List.mem_of_mem_drop hd)).2
    omega
end DL

set_option Elab.async false
set_option linter.all false
set_option maxRecDepth 100000
set_option maxHeartbeats 1000000
namespace DL
open PySem L2
variable {B : Sto}
theorem pKeyApp {xs : List Str} {x : Str} {a b : Den} {ε : Env} (hl : xs.length ≤ 100) (ha : PurE B a ε (tstr xs)) (hb : PurE B b ε (.str x)) : PurE B (dBin oAdd a (dTup (dCons b dNil))) ε (tstr (xs ++ [x])) := pO ha (pT (pK hb pN)) fun S => by
  unfold tstr oAdd
  simp only [List.length_map, List.length_cons, List.length_nil]
  rw [if_pos (Nat.le_trans (show xs.length + (0 + 1) ≤ 1000 by omega) (by decide))]
  simp
theorem pKn0 {ns os hs : List Str} {a : Den} {ε : Env} (ha : PurE B a ε (encK ns os hs)) : PurE B (dBin oGet a (dC (.int 0))) ε (tstr ns) := pO ha pC fun S => by unfold encK; simp
theorem pKn1 {ns os hs : List Str} {a : Den} {ε : Env} (ha : PurE B a ε (encK ns os hs)) : PurE B (dBin oGet a (dC (.int 1))) ε (tstr os) := pO ha pC fun S => by unfold encK; simp
theorem pKn2 {ns os hs : List Str} {a : Den} {ε : Env} (ha : PurE B a ε (encK ns os hs)) : PurE B (dBin oGet a (dC (.int 2))) ε (tstr hs) := pO ha pC fun S => by unfold encK; simp
theorem KnOk.nam {ns os hs : List Str} {x : Str} (k : KnOk ns os hs) (h : kd x = 1) (hl : ns.length < 100) : KnOk (ns ++ [x]) os hs :=
  ⟨fun y hy => by rcases List.mem_append.mp hy with q | q; · exact k.n y q
                  · rw [List.mem_singleton.mp q]; exact h, k.o, k.h, by simp; omega, k.lo, k.lh⟩
theorem KnOk.ow {ns os hs : List Str} {x : Str} (k : KnOk ns os hs) (h : kd x = 2) (hl : os.length < 100) : KnOk ns (os ++ [x]) hs :=
  ⟨k.n, fun y hy => by rcases List.mem_append.mp hy with q | q; · exact k.o y q
                       · rw [List.mem_singleton.mp q]; exact h, k.h, k.ln, by simp; omega, k.lh⟩
structure RsOk (rs : List Rule) : Prop where
  ok : okRs rs
  dep : ∀ r ∈ rs, dep r.b ≤ 10
  len : ∀ r ∈ rs, r.ns.length ≤ 100 ∧ r.hs.length ≤ 100
theorem deed_sem (ns : List Int) (hl : ns.length ≤ 63) {rs : List Rule} (R : RsOk rs) : ∀ (deep n : Nat) (t : Int) (nm os hs : List Str), 2 * deep + 5 ≤ n → 0 ≤ t → KnOk nm os hs → nm.length + deep ≤ 100 → os.length + deep ≤ 100 →
    ∃ d, Pur (csem n .f__law_deed [scr ns, .int t, .int deep, encK nm os hs, encRs rs]) (enc d) ∧ okD (szs rs) (nm ++ os ++ hs) d ∧ dep d ≤ deep := by
  intro deep
  induction deep with
  | zero =>
    intro n t nm os hs hn ht k _ _
    obtain ⟨n, rfl⟩ : ∃ j, n = j + 5 := ⟨n - 5, by omega⟩
    obtain ⟨d, hd, ho, hp⟩ := leaf_sem n ns (t + 1) (szs rs) (by omega) hl k
    refine ⟨d, ?_, ho, by omega⟩
    rw [cs_f__law_deed]
    refine pur_run ?_
    unfold b_f__law_deed
    refine pLet (pDrawn hl ht (by decide) pV pV pC) (fun S => rfl) (pTake (pOrB (pEqI pV pC rfl) (fun _ => pLtI pV pC rfl) (by simp)) (pRet (pCall (pK pV (pK (pAdd pV pC) (pK pV pN))) hd)))
  | succ deep ih =>
    intro n t nm os hs hn ht k hnm hos
    obtain ⟨n, rfl⟩ : ∃ j, n = j + 5 := ⟨n - 5, by omega⟩
    have sub : ∀ (t' : Int) (nm' os' : List Str), 0 ≤ t' → KnOk nm' os' hs → nm'.length + deep ≤ 100 → os'.length + deep ≤ 100 → ∃ d, Pur (csem (n + 4) .f__law_deed [scr ns, .int t', .int deep, encK nm' os' hs, encRs rs]) (enc d) ∧ okD (szs rs) (nm' ++ os' ++ hs) d ∧ dep d ≤ deep :=
      fun t' nm' os' h1 h2 h3 h4 => ih (n + 4) t' nm' os' hs (by omega) h1 h2 h3 h4
    have w0 := drw_lo ns t (m := 15) (by decide)
    have w1 := drw_hi ns t (m := 15) (by decide)
    generalize hw : drw ns t 15 = w at w0 w1
    have hd1 : (deep : Int) + 1 - 1 = deep := by omega
    have hcast : ((deep + 1 : Nat) : Int) = (deep : Int) + 1 := by omega
    rw [hcast]
    -- the beginning
    have beg : ∀ {d : D} {rest : SDen}, PurS [] rest [some (scr ns), some (D.int t), some (D.int ((deep : Int) + 1)), some (encK nm os hs), some (encRs rs), some (.int w), none, none, none, none, none] (.rt d) →
        PurS [] (sSeq (sAsg (dCall 3 (csem (n + 4) .f__law_drawn) (dCons (dVar 0) (dCons (dVar 1) (dCons (dC (.int 15)) dNil)))) (gN 5)) rest) [some (scr ns), some (D.int t), some (D.int ((deep : Int) + 1)), some (encK nm os hs), some (encRs rs), none, none, none, none, none, none] (.rt d) := fun h => by
      refine pLet (pDrawn hl ht (by decide) pV pV pC) (fun S => rfl) ?_
      rw [hw]
      exact h
    by_cases c1 : w < 2
    · obtain ⟨d, hd, ho, hp⟩ := leaf_sem n ns (t + 1) (szs rs) (by omega) hl k
      refine ⟨d, ?_, ho, by omega⟩
      rw [cs_f__law_deed]
      refine pur_run ?_
      unfold b_f__law_deed
      exact beg (pTake (pOrB (pEqI pV pC rfl) (fun _ => pLtI pV pC rfl) (by simp [c1])) (pRet (pCall (pK pV (pK (pAdd pV pC) (pK pV pN))) hd)))
    have s1 : PurB [] (bOr (dTest (dBin oEq (dVar 2) (dC (.int 0)))) (dTest (dBin oLt (dVar 5) (dC (.int 2))))) [some (scr ns), some (D.int t), some (D.int ((deep : Int) + 1)), some (encK nm os hs), some (encRs rs), some (.int w), none, none, none, none, none] false :=
      pOrB (pEqI pV pC rfl) (fun _ => pLtI pV pC rfl) (by simp [c1]; omega)
    by_cases c2 : w < 4 ∧ rs ≠ []
    · obtain ⟨d, hd, ho, hp⟩ := call_sem n deep ns t (kn := encK nm os hs) (K := nm ++ os ++ hs) ht hl c2.2 R.len fun t' ht' => ih (n + 3) t' nm os hs (by omega) ht' k (by omega) (by omega)
      refine ⟨d, ?_, ho, hp⟩
      rw [cs_f__law_deed]
      refine pur_run ?_
      unfold b_f__law_deed
      exact beg (pSkip s1 (pTake (pAndB (pLtI pV pC rfl) (fun _ => pB (pNe_rules R.ok R.dep pV)) (by simp [c2.1, c2.2])) (pRet (pCall (pK pV (pK pV (pK pV (pK pV (pK pV pN))))) hd))))
    have s2 : PurB [] (bAnd (dTest (dBin oLt (dVar 5) (dC (.int 4)))) (dTest (dBin oNe (dVar 4) (dTup dNil)))) [some (scr ns), some (D.int t), some (D.int ((deep : Int) + 1)), some (encK nm os hs), some (encRs rs), some (.int w), none, none, none, none, none] false :=
      pAndB (pLtI pV pC rfl) (fun _ => pB (pNe_rules R.ok R.dep pV)) (by
        by_cases q2 : rs = []
        · simp [q2]
        · have q : ¬ w < 4 := fun z => c2 ⟨z, q2⟩
          simp [q])
    obtain ⟨d1, hd1s, ho1, hp1⟩ := sub (t * 3 + 7) nm os (by omega) k (by omega) (by omega)
    have beg2 : ∀ {d : D} {rest : SDen}, PurS [] rest [some (scr ns), some (D.int t), some (D.int ((deep : Int) + 1)), some (encK nm os hs), some (encRs rs), some (.int w), some (enc d1), none, none, none, none] (.rt d) →
        PurS [] (sSeq (sAsg (dCall 5 (csem (n + 4) .f__law_deed) (dCons (dVar 0) (dCons (dBin oAdd (dBin oMul (dVar 1) (dC (.int 3))) (dC (.int 7))) (dCons (dBin oSub (dVar 2) (dC (.int 1))) (dCons (dVar 3) (dCons (dVar 4) dNil)))))) (gN 6)) rest)
          [some (scr ns), some (D.int t), some (D.int ((deep : Int) + 1)), some (encK nm os hs), some (encRs rs), some (.int w), none, none, none, none, none] (.rt d) := fun h => by
      refine pLet (pCall (pK pV (pK (pAdd (pMulR pV pC) pC) (pK (pSub pV pC) (pK pV (pK pV pN))))) ?_) (fun S => rfl) h
      rw [hd1]
      exact hd1s
    have t3 : (0 : Int) ≤ t + 3 := by omega
    by_cases c3 : w < 6
    · have hne : shv os ≠ [] := by simp [shv, abcd]
      obtain ⟨v, hv, hp⟩ := drw_pick ns (t + 3) hne
      have hm : 0 < ((shv os).length : Int) := by have := List.length_pos_iff.mpr hne; omega
      refine ⟨.wr v d1, ?_, ⟨shv_ok k hv, ho1⟩, by simp only [dep]; omega⟩
      rw [cs_f__law_deed]
      refine pur_run ?_
      unfold b_f__law_deed
      refine beg (pSkip s1 (pSkip s2 (beg2 (pTake (pLtI pV pC (by simp [c3])) (pLet (pShv k.lo (pKn1 pV)) (fun _ => rfl) (pRet (pT (pK pC (pK ?_ (pK pV pN))))))))))
      exact pGetT pV (pDrawn hl t3 hm pV (pAdd pV pC) (pLenT pV)) hp
    by_cases c4 : w = 6
    · refine ⟨.say d1, ?_, ho1, by simp only [dep]; omega⟩
      rw [cs_f__law_deed]
      refine pur_run ?_
      unfold b_f__law_deed
      exact beg (pSkip s1 (pSkip s2 (beg2 (pSkip (pLtI pV pC (by simp [c3])) (pTake (pEqI pV pC (by simp [c4])) (pRet (pT (pK pC (pK pV pN)))))))))
    by_cases c5 : w = 7
    · obtain ⟨v, hv, hp⟩ := drw_pick ns (t + 3) (l := (["x", "y", "x1"] : List Str)) (by simp)
      have hk : kd v = 1 := by
        have : ∀ y ∈ (["x", "y", "x1"] : List Str), kd y = 1 := by decide +kernel
        exact this v hv
      obtain ⟨d2, hd2, ho2, hp2⟩ := sub (t * 3 + 23) (nm ++ [v]) os (by omega) (k.nam hk (by omega)) (by simp; omega) (by omega)
      refine ⟨.lt v d1 d2, ?_, ⟨hk, ho1, okD_mono (fun _ _ h => h) d2 (fun y hy => ?_) ho2⟩, by simp only [dep]; omega⟩
      · rw [cs_f__law_deed]
        refine pur_run ?_
        unfold b_f__law_deed
        refine beg (pSkip s1 (pSkip s2 (beg2 (pSkip (pLtI pV pC (by simp [c3])) (pSkip (pEqI pV pC (by simp [c4])) (pTake (pEqI pV pC (by simp [c5])) (pLet (pPick (pK pC (pK pC (pK pC pN))) (pDrawn hl t3 (by decide) pV (pAdd pV pC) pC) (atI_map (f := D.str) hp)) (fun _ => rfl) (pRet (pT (pK pC (pK pV (pK pV (pK ?_ pN)))))))))))))
        refine pCall (pK pV (pK (pAdd (pMulR pV pC) pC) (pK (pSub pV pC) (pK ?_ (pK pV pN))))) (d := enc d2) (ds := [scr ns, .int (t * 3 + 23), .int ((deep : Int) + 1 - 1), encK (nm ++ [v]) os hs, encRs rs]) (by rw [hd1]; exact hd2)
        refine pO (pT (pK (pKeyApp k.ln (pKn0 pV) pV) pN)) (pSl0 pV pC) fun S => ?_
        rfl
      · simp only [List.mem_append, List.mem_cons, List.not_mem_nil, or_false] at hy ⊢
        rcases hy with ((q | q) | q) | q
        · exact .inr (.inl (.inl q))
        · exact .inl q
        · exact .inr (.inl (.inr q))
        · exact .inr (.inr q)
    by_cases c6 : w = 8
    · obtain ⟨v, hv, hp⟩ := drw_pick ns (t + 3) (l := (["p", "q"] : List Str)) (by simp)
      have hk : kd v = 2 := by
        have : ∀ y ∈ (["p", "q"] : List Str), kd y = 2 := by decide +kernel
        exact this v hv
      obtain ⟨d2, hd2, ho2, hp2⟩ := sub (t * 3 + 23) nm (os ++ [v]) (by omega) (k.ow hk (by omega)) (by omega) (by simp; omega)
      refine ⟨.own v d1 d2, ?_, ⟨hk, ho1, okD_mono (fun _ _ h => h) d2 (fun y hy => ?_) ho2⟩, by simp only [dep]; omega⟩
      · rw [cs_f__law_deed]
        refine pur_run ?_
        unfold b_f__law_deed
        refine beg (pSkip s1 (pSkip s2 (beg2 (pSkip (pLtI pV pC (by simp [c3])) (pSkip (pEqI pV pC (by simp [c4])) (pSkip (pEqI pV pC (by simp [c5])) (pTake (pEqI pV pC (by simp [c6])) (pLet (pPick (pK pC (pK pC pN)) (pDrawn hl t3 (by decide) pV (pAdd pV pC) pC) (atI_map (f := D.str) hp)) (fun _ => rfl) (pLet (pT (pK (pKn0 pV) (pK (pKeyApp k.lo (pKn1 pV) pV) (pK (pKn2 pV) pN)))) (fun _ => rfl) (pRet (pT (pK pC (pK pV (pK pV (pK ?_ pN)))))))))))))))
        exact pCall (pK pV (pK (pAdd (pMulR pV pC) pC) (pK (pSub pV pC) (pK pV (pK pV pN))))) (by rw [hd1]; exact hd2)
      · simp only [List.mem_append, List.mem_cons, List.not_mem_nil, or_false] at hy ⊢
        rcases hy with (q | (q | q)) | q
        · exact .inr (.inl (.inl q))
        · exact .inr (.inl (.inr q))
        · exact .inl q
        · exact .inr (.inr q)
    obtain ⟨d2, hd2, ho2, hp2⟩ := sub (t * 3 + 41) nm os (by omega) k (by omega) (by omega)
    have beg3 : ∀ {d : D} {rest : SDen}, PurS [] rest [some (scr ns), some (D.int t), some (D.int ((deep : Int) + 1)), some (encK nm os hs), some (encRs rs), some (.int w), some (enc d1), none, none, none, some (enc d2)] (.rt d) →
        PurS [] (sSeq (sAsg (dCall 5 (csem (n + 4) .f__law_deed) (dCons (dVar 0) (dCons (dBin oAdd (dBin oMul (dVar 1) (dC (.int 3))) (dC (.int 41))) (dCons (dBin oSub (dVar 2) (dC (.int 1))) (dCons (dVar 3) (dCons (dVar 4) dNil)))))) (gN 10)) rest)
          [some (scr ns), some (D.int t), some (D.int ((deep : Int) + 1)), some (encK nm os hs), some (encRs rs), some (.int w), some (enc d1), none, none, none, none] (.rt d) := fun h => by
      refine pLet (pCall (pK pV (pK (pAdd (pMulR pV pC) pC) (pK (pSub pV pC) (pK pV (pK pV pN))))) ?_) (fun S => rfl) h
      rw [hd1]
      exact hd2
    by_cases c7 : w = 9
    · obtain ⟨d3, hd3, ho3, hp3⟩ := sub (t * 3 + 61) nm os (by omega) k (by omega) (by omega)
      refine ⟨.iff d1 d2 d3, ?_, ⟨ho1, ho2, ho3⟩, by simp only [dep]; omega⟩
      rw [cs_f__law_deed]
      refine pur_run ?_
      unfold b_f__law_deed
      refine beg (pSkip s1 (pSkip s2 (beg2 (pSkip (pLtI pV pC (by simp [c3])) (pSkip (pEqI pV pC (by simp [c4])) (pSkip (pEqI pV pC (by simp [c5])) (pSkip (pEqI pV pC (by simp [c6])) (beg3 (pTake (pEqI pV pC (by simp [c7])) (pRet (pT (pK pC (pK pV (pK pV (pK ?_ pN)))))))))))))))
      exact pCall (pK pV (pK (pAdd (pMulR pV pC) pC) (pK (pSub pV pC) (pK pV (pK pV pN))))) (by rw [hd1]; exact hd3)
    obtain ⟨tw, htw⟩ : ∃ tw : Two, atI ([.tup [.str "then"], .tup [.str "add"], .tup [.str "less"], .tup [.str "loop"], .tup [.str "then"]] : List D) (w - 10) = some (.tup [.str tw.w]) := by
      have : w = 10 ∨ w = 11 ∨ w = 12 ∨ w = 13 ∨ w = 14 := by omega
      rcases this with rfl | rfl | rfl | rfl | rfl
      · exact ⟨.thn, rfl⟩
      · exact ⟨.add, rfl⟩
      · exact ⟨.les, rfl⟩
      · exact ⟨.lop, rfl⟩
      · exact ⟨.thn, rfl⟩
    refine ⟨.two tw d1 d2, ?_, ⟨ho1, ho2⟩, by simp only [dep]; omega⟩
    rw [cs_f__law_deed]
    refine pur_run ?_
    unfold b_f__law_deed
    refine beg (pSkip s1 (pSkip s2 (beg2 (pSkip (pLtI pV pC (by simp [c3])) (pSkip (pEqI pV pC (by simp [c4])) (pSkip (pEqI pV pC (by simp [c5])) (pSkip (pEqI pV pC (by simp [c6])) (beg3 (pSkip (pEqI pV pC (by simp [c7])) (pRet ?_))))))))))
    refine pO (pPick (pK (pT (pK pC pN)) (pK (pT (pK pC pN)) (pK (pT (pK pC pN)) (pK (pT (pK pC pN)) (pK (pT (pK pC pN)) pN))))) (pSub pV pC) htw) (pT (pK pV (pK pV pN))) fun S => ?_
    rfl
end DL

set_option Elab.async false
set_option linter.all false
set_option maxRecDepth 100000
set_option maxHeartbeats 1000000
namespace DL
open PySem L2
variable {B : Sto}
def PurL (B : Sto) (a : Den) (ε : Env) (ds : List D) : Prop := ∀ S, B <+: S → ∃ E, a ε S = .ok (.ref (S ++ E).length) (S ++ E ++ [.lst ds])
def PurI (B : Sto) (it : IDen) (ε : Env) (xs : List D) : Prop := ∀ S, B <+: S → ∃ E src, it ε S = .ok src (S ++ E) ∧ ∀ S', S ++ E <+: S' → src S' = some xs
section
variable {it : IDen} {g : GDen} {c : DenB} {e a b : Den} {vs : List Nat} {ε : Env} {xs ys ds : List D} {p : D → Bool} {h : D → D} {src : Src} {m : Nat}
theorem lc_pure (hsrc : ∀ S', B <+: S' → src S' = some xs) (hx : ∀ x ∈ xs, ∃ ε', (∀ S, g x (wipeE ε vs) S = some ε') ∧ PurB B c ε' (p x) ∧ (p x = true → PurE B e ε' (h x))) (hl : xs.length ≤ 1000) :
    ∀ (k i : Nat) (acc : List D) (S : Sto), i + k = xs.length → acc.length ≤ i → B <+: S → ∃ E, lcI src g c e vs ε (k + 1) i acc S = .ok (acc ++ ((xs.drop i).filter p).map h) (S ++ E)
  | 0, i, acc, S, hk, ha, hS => by
    refine ⟨[], ?_⟩
    unfold lcI
    have e1 : xs[i]? = none := List.getElem?_eq_none (by omega)
    have e2 : xs.drop i = [] := List.drop_eq_nil_of_le (by omega)
    simp only [hsrc S hS, e1, e2]
    simp
  | k + 1, i, acc, S, hk, ha, hS => by
    have hi : i < xs.length := by omega
    have e1 : xs[i]? = some xs[i] := List.getElem?_eq_getElem hi
    obtain ⟨ε', hg, hc, he⟩ := hx xs[i] (List.getElem_mem hi)
    obtain ⟨E1, e2⟩ := hc S hS
    have e3 : xs.drop i = xs[i] :: xs.drop (i + 1) := List.drop_eq_getElem_cons hi
    unfold lcI
    simp only [hsrc S hS, e1, hg, e2, e3, noX, x_bind]
    by_cases hp : p xs[i] = true
    · obtain ⟨E2, e4⟩ := he hp (S ++ E1) (pre_app hS)
      obtain ⟨E3, e5⟩ := lc_pure hsrc hx hl k (i + 1) (acc ++ [h xs[i]]) (S ++ E1 ++ E2) (by omega) (by simp; omega) (pre_app (pre_app hS))
      refine ⟨E1 ++ E2 ++ E3, ?_⟩
      rw [if_pos hp, e4]
      simp only [noX, x_bind]
      rw [if_pos (show acc.length < big from Nat.lt_of_lt_of_le (show acc.length < 1001 by omega) (by decide)), e5, List.filter_cons_of_pos hp]
      simp
    · obtain ⟨E3, e5⟩ := lc_pure hsrc hx hl k (i + 1) acc (S ++ E1) (by omega) (by omega) (pre_app hS)
      refine ⟨E1 ++ E3, ?_⟩
      rw [if_neg hp, e5, List.filter_cons_of_neg hp]
      simp
theorem pLc (hi : PurI B it ε xs) (hx : ∀ x ∈ xs, ∃ ε', (∀ S, g x (wipeE ε vs) S = some ε') ∧ PurB B c ε' (p x) ∧ (p x = true → PurE B e ε' (h x))) (hl : xs.length ≤ 1000) : PurL B (dLc it g c e vs) ε ((xs.filter p).map h) := fun S hS => by
  obtain ⟨E, src, e1, hs⟩ := hi S hS
  have up : ∀ ε', (∀ t, PurB B c ε' t → PurB (S ++ E) c ε' t) ∧ ∀ d, PurE B e ε' d → PurE (S ++ E) e ε' d := fun ε' => ⟨fun t q S' hS' => q S' ((pre_app hS).trans hS'), fun d q S' hS' => q S' ((pre_app hS).trans hS')⟩
  obtain ⟨E2, e2⟩ := lc_pure (B := S ++ E) (p := p) (h := h) hs (fun x m => by
    obtain ⟨ε', a, b, k⟩ := hx x m
    exact ⟨ε', a, (up ε').1 _ b, fun q => (up ε').2 _ (k q)⟩) hl xs.length 0 [] (S ++ E) (by omega) (by simp) (List.prefix_refl _)
  refine ⟨E ++ E2, ?_⟩
  unfold dLc
  rw [e1, x_bind]
  simp only [hs (S ++ E) (List.prefix_refl _), e2, x_bind, lcEnd]
  simp
theorem bYes_pure {ε : Env} : PurB B bYes ε true := fun S _ => ⟨[], by simp [bYes]⟩
theorem pLc1 (hi : PurI B it ε xs) (hx : ∀ x ∈ xs, ∃ ε', (∀ S, g x (wipeE ε vs) S = some ε') ∧ PurE B e ε' (h x)) (hl : xs.length ≤ 1000) : PurL B (dLc it g bYes e vs) ε (xs.map h) := by
  have := pLc (p := fun _ => true) (h := h) (c := bYes) hi (fun x m => by
    obtain ⟨ε', a, b⟩ := hx x m
    exact ⟨ε', a, bYes_pure, fun _ => b⟩) hl
  rwa [List.filter_eq_self.mpr (fun _ _ => rfl)] at this
theorem fall_intD : ∀ ns : List Int, fall intD (ns.map D.int) = some ns
  | [] => rfl
  | i :: r => fall_cons rfl (fall_intD r)
theorem pSumL {ns : List Int} (ha : PurL B a ε (ns.map .int)) : PurE B (dFn fSum (dCons a dNil)) ε (.int ns.sum) := fun S hS => by
  obtain ⟨E, e1⟩ := ha S hS
  refine ⟨E ++ [.lst (ns.map .int)], ?_⟩
  have q : litems (S ++ E ++ [O.lst (ns.map .int)]) (.ref (S ++ E).length) = some (ns.map .int) := by
    unfold litems
    simp only [getLast_app]
  simp only [x_Fn, x_Cons, e1, x_bind, x_Nil, fSum, fLst, q, fall_intD]
  simp
theorem piTup (ha : PurE B a ε (.tup xs)) : PurI B (iAny a) ε xs := fun S hS => by
  obtain ⟨E, e1⟩ := ha S hS
  exact ⟨E, _, by unfold iAny; rw [e1]; rfl, fun _ _ => rfl⟩
theorem piZip (ha : PurE B a ε (.tup xs)) (hb : PurE B b ε (.tup ys)) (hu : (pairs xs ys).all unt = true) : PurI B (iZipD a b) ε (pairs xs ys) := fun S hS => by
  obtain ⟨E, e1⟩ := ha S hS
  obtain ⟨E2, e2⟩ := hb (S ++ E) (pre_app hS)
  exact ⟨E ++ E2, _, by unfold iZipD; rw [e1, x_bind, e2, x_bind]; simp [hu], fun _ _ => rfl⟩
theorem pLetAt {a : Den} {g : GDen} {w : SDen} {ε : Env} {fl : Fl} (h : ∀ S, B <+: S → ∃ E d ε', a ε S = .ok d (S ++ E) ∧ (∀ S, g d ε S = some ε') ∧ PurS (S ++ E) w ε' fl) : PurS B (sSeq (sAsg a g) w) ε fl := fun S hS => by
  obtain ⟨E, d, ε', e1, hg, hw⟩ := h S hS
  obtain ⟨E2, e2⟩ := hw (S ++ E) (List.prefix_refl _)
  exact ⟨E ++ E2, by simp [e1, hg, e2]⟩
theorem PurE.up {B' : Sto} {d : D} (h : PurE B a ε d) (hB : B <+: B') : PurE B' a ε d := fun S hS => h S (hB.trans hS)
theorem PurR.up {B' : Sto} {f : Sto → R D} {d : D} (h : PurR B f d) (hB : B <+: B') : PurR B' f d := fun S hS => h S (hB.trans hS)
end
end DL

set_option Elab.async false
set_option linter.all false
set_option maxRecDepth 100000
set_option maxHeartbeats 1000000
namespace DL
open PySem L2
variable {B : Sto}
theorem szs_take (rs : List Rule) (i : Nat) : szs (rs.take i) = (szs rs).take i := by unfold szs; rw [List.map_take]
theorem okRs_snoc {rs : List Rule} {r : Rule} (h : okRs rs) (hr : okRl (szs rs) r) : okRs (rs ++ [r]) := fun i r' hi => by
  by_cases hl : i < rs.length
  · rw [List.getElem?_append_left hl] at hi
    rw [List.take_append_of_le_length (by omega)]
    exact h i r' hi
  · have e : i = rs.length := by
      have := (List.getElem?_eq_some_iff.mp hi).1
      simp at this
      omega
    subst e
    rw [List.getElem?_append_right (Nat.le_refl _), Nat.sub_self] at hi
    cases hi
    rw [List.take_left]
    exact hr
structure RsLaw (rs : List Rule) : Prop where
  r : RsOk rs
  len : rs.length ≤ 2
  dep : ∀ r ∈ rs, dep r.b ≤ 2
  sz : ∀ r ∈ rs, r.ns.length ≤ 2 ∧ r.hs.length ≤ 2
theorem kn_nil : KnOk [] [] [] := ⟨by simp, by simp, by simp, by simp, by simp, by simp⟩
theorem tstr_get {xss : List (List Str)} {i : Int} {xs : List Str} (h : atI xss i = some xs) : atI (xss.map tstr) i = some (tstr xs) := atI_map h
theorem rules_sem (n : Nat) (ns : List Int) (t : Int) (ht : 0 ≤ t) (hl : ns.length ≤ 63) : ∃ rs, Pur (csem (n + 10) .f__law_rules [scr ns, .int t]) (encRs rs) ∧ RsLaw rs := by
  have h0 := drw_lo ns t (m := 3) (by decide)
  have h1 := drw_hi ns t (m := 3) (by decide)
  have hm : ((drw ns t 3).toNat : Int) = drw ns t 3 := by omega
  have hm2 : (drw ns t 3).toNat ≤ 2 := by omega
  generalize hM : (drw ns t 3).toNat = m at hm hm2
  rw [cs_f__law_rules]
  let body : SDen := (sSeq (sAsg (dBin oGet (dLst (dCons (dTup dNil) (dCons (dTup (dCons (dC (.str "x")) dNil)) (dCons (dTup (dCons (dC (.str "y")) (dCons (dC (.str "x")) dNil))) dNil)))) (dCall 3 (csem (n + 9) .f__law_drawn) (dCons (dVar 0) (dCons (dBin oAdd (dBin oAdd (dVar 1) (dC (.int 1))) (dBin oMul (dC (.int 5)) (dVar 3))) (dCons (dC (.int 3)) dNil))))) (gN 4))
    (sSeq (sAsg (dBin oGet (dLst (dCons (dTup dNil) (dCons (dTup (dCons (dC (.str "f")) dNil)) (dCons (dTup (dCons (dC (.str "f")) (dCons (dC (.str "g1")) dNil))) dNil)))) (dCall 3 (csem (n + 9) .f__law_drawn) (dCons (dVar 0) (dCons (dBin oAdd (dBin oAdd (dVar 1) (dC (.int 2))) (dBin oMul (dC (.int 5)) (dVar 3))) (dCons (dC (.int 3)) dNil))))) (gN 5))
    (sSeq (sAsg (dCall 5 (csem (n + 9) .f__law_deed) (dCons (dVar 0) (dCons (dBin oAdd (dBin oAdd (dVar 1) (dC (.int 20))) (dBin oMul (dC (.int 7)) (dVar 3))) (dCons (dC (.int 2)) (dCons (dTup (dCons (dVar 4) (dCons (dTup dNil) (dCons (dVar 5) dNil)))) (dCons (dVar 2) dNil)))))) (gN 6))
    (sAsg (dBin oAdd (dVar 2) (dTup (dCons (dTup (dCons (dVar 4) (dCons (dVar 5) (dCons (dVar 6) dNil)))) dNil))) (gN 2)))))
  have loop : ∀ (c k : Nat) (rs : List Rule) (v3 v4 v5 v6 : Option D), k + c = m → rs.length = k → RsLaw rs → ∃ rs' w3 w4 w5 w6, RsLaw rs' ∧ ∀ S, ∃ E, forI (fun _ => some (nums 0 m)) (gN 3) body (c + 1) k [some (scr ns), some (.int t), some (encRs rs), v3, v4, v5, v6] S = .ok (.nx [some (scr ns), some (.int t), some (encRs rs'), w3, w4, w5, w6]) (S ++ E) := by
    intro c
    induction c with
    | zero =>
      intro k rs v3 v4 v5 v6 hk hlen hrs
      refine ⟨rs, v3, v4, v5, v6, hrs, fun S => ⟨[], ?_⟩⟩
      unfold forI
      simp only [nums_get, if_neg (show ¬ k < m by omega)]
      simp
    | succ c ih =>
      intro k rs v3 v4 v5 v6 hk hlen hrs
      obtain ⟨nm, hnm, hnp⟩ := drw_pick ns (t + 1 + 5 * (k : Int)) (l := ([[], ["x"], ["y", "x"]] : List (List Str))) (by simp)
      obtain ⟨hd, hhd, hhp⟩ := drw_pick ns (t + 2 + 5 * (k : Int)) (l := ([[], ["f"], ["f", "g1"]] : List (List Str))) (by simp)
      have hn1 : ∀ l ∈ ([[], ["x"], ["y", "x"]] : List (List Str)), (∀ x ∈ l, kd x = 1) ∧ l.Nodup ∧ l.length ≤ 2 := by decide +kernel
      have hh1 : ∀ l ∈ ([[], ["f"], ["f", "g1"]] : List (List Str)), (∀ x ∈ l, kd x = 3) ∧ l.Nodup ∧ l.length ≤ 2 := by decide +kernel
      obtain ⟨a1, a2, a3⟩ := hn1 nm hnm
      obtain ⟨b1, b2, b3⟩ := hh1 hd hhd
      have kn : KnOk nm [] hd := ⟨a1, by simp, b1, by omega, by simp, by omega⟩
      obtain ⟨d, hds, hdo, hdd⟩ := deed_sem ns hl hrs.r 2 (n + 9) (t + 20 + 7 * (k : Int)) nm [] hd (by omega) (by omega) kn (by omega) (by simp)
      have okr : okRl (szs rs) ⟨nm, hd, d⟩ := ⟨a1, b1, a2, b2, by simpa using hdo⟩
      have hrs' : RsLaw (rs ++ [⟨nm, hd, d⟩]) := by
        refine ⟨⟨okRs_snoc hrs.r.ok okr, fun r hr => ?_, fun r hr => ?_⟩, by simp; omega, fun r hr => ?_, fun r hr => ?_⟩
        all_goals rcases List.mem_append.mp hr with q | q
        · exact hrs.r.dep r q
        · rw [List.mem_singleton.mp q]; exact Nat.le_trans hdd (by decide)
        · exact hrs.r.len r q
        · rw [List.mem_singleton.mp q]; exact ⟨by show nm.length ≤ 100; omega, by show hd.length ≤ 100; omega⟩
        · exact hrs.dep r q
        · rw [List.mem_singleton.mp q]; exact hdd
        · exact hrs.sz r q
        · rw [List.mem_singleton.mp q]; exact ⟨a3, b3⟩
      obtain ⟨rs', w3, w4, w5, w6, hr', lp⟩ := ih (k + 1) (rs ++ [⟨nm, hd, d⟩]) (some (.int k)) (some (tstr nm)) (some (tstr hd)) (some (enc d)) (by omega) (by simp; omega) hrs'
      refine ⟨rs', w3, w4, w5, w6, hr', fun S => ?_⟩
      have t1 : (0 : Int) ≤ t + 1 + 5 * (k : Int) := by omega
      have t2 : (0 : Int) ≤ t + 2 + 5 * (k : Int) := by omega
      have bs : PurS [] body [some (scr ns), some (.int t), some (encRs rs), some (.int k), v4, v5, v6] (.nx [some (scr ns), some (.int t), some (encRs (rs ++ [⟨nm, hd, d⟩])), some (.int k), some (tstr nm), some (tstr hd), some (enc d)]) := by
        refine pLet (pPick (pK (pT pN) (pK (pT (pK pC pN)) (pK (pT (pK pC (pK pC pN))) pN))) (pDrawn hl t1 (by decide) pV (pAdd (pAdd pV pC) (pMulL pC pV)) pC) (tstr_get hnp)) (fun _ => rfl) ?_
        refine pLet (pPick (pK (pT pN) (pK (pT (pK pC pN)) (pK (pT (pK pC (pK pC pN))) pN))) (pDrawn hl t2 (by decide) pV (pAdd (pAdd pV pC) (pMulL pC pV)) pC) (tstr_get hhp)) (fun _ => rfl) ?_
        refine pLet (pCall (pK pV (pK (pAdd (pAdd pV pC) (pMulL pC pV)) (pK pC (pK (pT (pK pV (pK (pT pN) (pK pV pN)))) (pK pV pN))))) hds) (fun _ => rfl) ?_
        refine pAsg (pO pV (pT (pK (pT (pK pV (pK pV (pK pV pN)))) pN)) fun S => ?_) (fun _ => rfl)
        unfold encRs oAdd
        simp only [List.length_map, List.length_cons, List.length_nil]
        rw [if_pos (Nat.le_trans (show rs.length + (0 + 1) ≤ 1000 by omega) (by decide)), List.map_append]
        rfl
      obtain ⟨E1, e1⟩ := bs S List.nil_prefix
      obtain ⟨E2, e2⟩ := lp (S ++ E1)
      refine ⟨E1 ++ E2, ?_⟩
      unfold forI
      simp only [nums_get, if_pos (show k < m by omega)]
      show (match body [some (scr ns), some (.int t), some (encRs rs), some (.int k), v4, v5, v6] S with
        | .ok (.nx ε') S' => forI (fun _ => some (nums 0 m)) (gN 3) body (c + 1) (k + 1) ε' S'
        | .ok (.ct ε') S' => forI (fun _ => some (nums 0 m)) (gN 3) body (c + 1) (k + 1) ε' S'
        | .ok (.bk ε') S' => .ok (.nx ε') S'
        | r => r) = _
      rw [e1]
      show forI (fun _ => some (nums 0 m)) (gN 3) body (c + 1) (k + 1) _ (S ++ E1) = _
      rw [e2]
      simp
  obtain ⟨rs', w3, w4, w5, w6, hr', lp⟩ := loop m 0 [] none none none none (by omega) rfl ⟨⟨fun i r h => by simp at h, by simp, by simp⟩, by simp, by simp, by simp⟩
  refine ⟨rs', pur_run ?_, hr'⟩
  unfold b_f__law_rules
  refine pLet (pT pN) (fun _ => rfl) (pSeq (ε' := [some (scr ns), some (.int t), some (encRs rs'), w3, w4, w5, w6]) (fun S _ => ?_) (pRet pV))
  have it : PurE [] (dCall 3 (csem (n + 9) .f__law_drawn) (dCons (dVar 0) (dCons (dVar 1) (dCons (dC (.int 3)) dNil)))) [some (scr ns), some (.int t), some (encRs []), none, none, none, none] (.int m) := by
    rw [hm]
    exact pDrawn hl ht (by decide) pV pV pC
  obtain ⟨E, e1⟩ := it S List.nil_prefix
  obtain ⟨E2, e2⟩ := lp (S ++ E)
  refine ⟨E ++ E2, ?_⟩
  have e3 := iRange1_of (okR_of (by omega) (by omega)) e1
  rw [Int.toNat_natCast] at e3
  have := sFor_of e3 e2
  rw [← List.append_assoc]
  exact this
end DL

set_option Elab.async false
set_option linter.all false
set_option maxRecDepth 100000
set_option maxHeartbeats 1000000
namespace DL
open PySem L2
structure Stt where
  kept : Str → Int
  asked : List Int
  many : Nat
  spoken : List Int
  marks : List D
  cells : List Int
abbrev Thk := Stt → Int × Stt
def markA (v : Int) : D := .tup [.str "ask", .int v]
def markR (x : Str) (v : Int) : D := .tup [.str "read", .str x, .int v]
def markW (x : Str) (v : Int) : D := .tup [.str "write", .str x, .int v]
def markS (v : Int) : D := .tup [.str "say", .int v]
def tAskd : Thk := fun st => let a := (st.asked[st.many]?).getD 0; (a, { st with many := st.many + 1, marks := st.marks ++ [markA a] })
def tRead (x : Str) : Thk := fun st => (st.kept x, { st with marks := st.marks ++ [markR x (st.kept x)] })
def tWrt (x : Str) (v : Int) : Thk := fun st => (v, { st with kept := fun y => if y = x then v else st.kept y, marks := st.marks ++ [markW x v] })
def tSayd (v : Int) : Thk := fun st => (v, { st with spoken := st.spoken ++ [v], marks := st.marks ++ [markS v] })
structure Pl where
  run : Nat
  w : Nat
  kept : Nat
  spoken : Nat
  marks : Nat
  cells : Nat
  asked : Nat
  ans : Nat
  rules : D
def runF (L : Pl) : List (Str × D) := [("rules", L.rules), ("world", .ref L.w), ("answers", .ref L.ans), ("place", .int 0), ("wanted", .non), ("cells", .ref L.cells)]
def wldF (L : Pl) (many : Nat) : List (Str × D) := [("kept", .ref L.kept), ("asked", .ref L.asked), ("many", .int many), ("spoken", .ref L.spoken), ("marks", .ref L.marks)]
def keptD (k : Str → Int) : List (Key × D) := abcd.map fun x => (.inr x, .int (k x))
def Pl.mut (L : Pl) : List Nat := [L.w, L.kept, L.spoken, L.marks, L.cells]
structure Rep (L : Pl) (S : Sto) (st : Stt) : Prop where
  run : S[L.run]? = some (.ins "Run" (runF L))
  w : S[L.w]? = some (.ins "World" (wldF L st.many))
  kept : S[L.kept]? = some (.dct (keptD st.kept))
  spoken : S[L.spoken]? = some (.lst (st.spoken.map .int))
  marks : S[L.marks]? = some (.lst st.marks)
  cells : S[L.cells]? = some (.lst (st.cells.map .int))
  asked : S[L.asked]? = some (.lst (st.asked.map .int))
structure Frm (L : Pl) (S S' : Sto) : Prop where
  len : S.length ≤ S'.length
  keep : ∀ n o, n ∉ L.mut → S[n]? = some o → S'[n]? = some o
theorem Frm.refl {L : Pl} {S : Sto} : Frm L S S := ⟨Nat.le_refl _, fun _ _ _ h => h⟩
theorem Frm.trans {L : Pl} {S S' S'' : Sto} (a : Frm L S S') (b : Frm L S' S'') : Frm L S S'' := ⟨Nat.le_trans a.len b.len, fun n o h e => b.keep n o h (a.keep n o h e)⟩
theorem Frm.set {L : Pl} {S : Sto} {n : Nat} {o : O} (h : n ∈ L.mut) : Frm L S (S.set n o) := ⟨by simp, fun m u hm e => by
  have : n ≠ m := fun q => hm (q ▸ h)
  rw [List.getElem?_set_ne this]
  exact e⟩
theorem Frm.app {L : Pl} {S E : Sto} : Frm L S (S ++ E) := ⟨by simp, fun n o _ e => by
  rw [List.getElem?_append_left (List.getElem?_eq_some_iff.mp e).1]
  exact e⟩
structure Apart (L : Pl) : Prop where
  nd : L.mut.Nodup
  run : L.run ∉ L.mut
  asked : L.asked ∉ L.mut
structure Fits (st : Stt) : Prop where
  m : st.marks.length < 100000
  s : st.spoken.length < 100000
  c : st.cells.length < 100000
structure Lst (a b : Stt) : Prop where
  m : a.marks.length ≤ b.marks.length
  s : a.spoken.length ≤ b.spoken.length
  c : a.cells.length ≤ b.cells.length
theorem Lst.refl {a : Stt} : Lst a a := ⟨Nat.le_refl _, Nat.le_refl _, Nat.le_refl _⟩
theorem Lst.trans {a b c : Stt} (x : Lst a b) (y : Lst b c) : Lst a c := ⟨Nat.le_trans x.m y.m, Nat.le_trans x.s y.s, Nat.le_trans x.c y.c⟩
theorem Fits.of {a b : Stt} (x : Lst a b) (f : Fits b) : Fits a := ⟨Nat.lt_of_le_of_lt x.m f.m, Nat.lt_of_le_of_lt x.s f.s, Nat.lt_of_le_of_lt x.c f.c⟩
def ZE (a : Den) (ε : Env) (d : D) : Prop := ∀ S, a ε S = .ok d S
def ZB (a : DenB) (ε : Env) (b : Bool) : Prop := ∀ S, a ε S = .ok b S
section
variable {o : Op} {a b : Den} {ba bb : DenB} {ε ε' : Env} {d e x : D} {i : Nat} {u v w : SDen} {g : GDen} {ds : List D} {t : Bool} {p q : Str} {S : Sto}
theorem zC : ZE (dC d) ε d := fun _ => rfl
theorem zV (h : ε[i]? = some (some d) := by rfl) : ZE (dVar i) ε d := fun _ => x_Var h
theorem zG {j : Int} (ha : ZE a ε (.tup ds)) (h : atI ds j = some x := by rfl) : ZE (dBin oGet a (dC (.int j))) ε x := fun S => by simp [ha S, h]
theorem zEqS (ha : ZE a ε (.str p)) (h : decide (p = q) = t := by decide +kernel) : ZB (dTest (dBin oEq a (dC (.str q)))) ε t := fun S => by
  refine x_Test ?_
  rw [x_Bin, ha S, x_bind, x_C, x_bind, x_eqS, h]
theorem zIn {qs : List Str} {r : DenA} (ha : ZE a ε (.str p)) (hr : ∀ S, r ε S = .ok (qs.map D.str) S) (hl : qs.length ≤ 1000 := by simp) (h : decide (p ∈ qs) = t := by decide +kernel) : ZB (dTest (dBin oIn a (dTup r))) ε t := fun S => by
  refine x_Test ?_
  have e : inD S (.str p) (.tup (qs.map D.str)) = some (decide (p ∈ qs)) := by
    unfold inD
    simp only [items_tup]
    rw [if_pos (show flatD (.str p) = true ∧ (qs.map D.str).all flatD = true from ⟨rfl, by rw [List.all_map]; exact List.all_eq_true.mpr fun _ _ => rfl⟩), List.any_map]
    congr 1
    rw [Bool.eq_iff_iff, List.any_eq_true, decide_eq_true_iff]
    constructor
    · rintro ⟨y, hy, e⟩
      have : y = p := by simpa [eqF] using e
      rw [← this]
      exact hy
    · intro hy
      exact ⟨p, hy, by simp [eqF]⟩
  rw [x_Bin, ha S, x_bind, x_Tup, hr S, x_bind, x_mkTup (by simpa using hl), x_bind]
  unfold oIn
  rw [e, h]
end
section
variable {o : Op} {a b : Den} {ba bb : DenB} {ε ε' : Env} {d e x : D} {i : Nat} {u v w : SDen} {g : GDen} {ds : List D} {t : Bool} {p q : Str} {S S1 S2 : Sto} {r : R Fl} {rd : R D} {ar : DenA} {f c m : Str} {n np nN : Nat} {fs : List (Str × D)} {F : Fn}
theorem eZ (h : ZE a ε d) : a ε S = .ok d S := h S
theorem eZB (h : ZB ba ε t) : ba ε S = .ok t S := h S
theorem run_rt {b : SDen} (h : b (ds.map some ++ List.replicate (nN - np) none) S = .ok (.rt d) S1) (hl : ds.length = np := by rfl) : runFn np nN b ds S = .ok d S1 := by rw [runFn_fin hl, h]; rfl
theorem eLet (ha : a ε S = .ok d S1) (k : w ε' S1 = r) (hg : ∀ S, g d ε S = some ε' := by intro _; rfl) : sSeq (sAsg a g) w ε S = r := by
  rw [x_Seq, x_Asg, ha, x_sE]
  simp only [hg, x_sN]
  exact k
theorem eAsg (ha : a ε S = .ok d S1) (hg : ∀ S, g d ε S = some ε' := by intro _; rfl) : sAsg a g ε S = .ok (.nx ε') S1 := by
  rw [x_Asg, ha, x_sE]
  simp only [hg]
theorem eSkip (h : ba ε S = .ok false S1) (k : w ε S1 = r) : sSeq (sIf ba u sNil) w ε S = r := by
  rw [x_Seq, x_sIf, h, x_sE, if_neg Bool.false_ne_true, x_sNil, x_sN]
  exact k
theorem eTake (h : ba ε S = .ok true S1) (k : u ε S1 = .ok (.rt d) S2) : sSeq (sIf ba u v) w ε S = .ok (.rt d) S2 := by
  rw [x_Seq, x_sIf, h, x_sE, if_pos rfl, k, x_sNr]
theorem eIfT (h : ba ε S = .ok true S1) (k : u ε S1 = r) : sIf ba u v ε S = r := by
  rw [x_sIf, h, x_sE, if_pos rfl]
  exact k
theorem eIfF (h : ba ε S = .ok false S1) (k : v ε S1 = r) : sIf ba u v ε S = r := by
  rw [x_sIf, h, x_sE, if_neg Bool.false_ne_true]
  exact k
theorem eSeq (h : u ε S = .ok (.nx ε') S1) (k : w ε' S1 = r) : sSeq u w ε S = r := by
  rw [x_Seq, h, x_sN]
  exact k
theorem eRet (h : a ε S = .ok d S1) : sRet a ε S = .ok (.rt d) S1 := by rw [x_Ret, h]; rfl
theorem eExpr (h : a ε S = .ok d S1) : sExpr a ε S = .ok (.nx ε) S1 := by rw [x_Expr, h]; rfl
theorem eBin (ha : a ε S = .ok d S1) (hb : b ε S1 = .ok e S2) (k : o d e S2 = rd) : dBin o a b ε S = rd := by
  rw [x_Bin, ha, x_bind, hb, x_bind]
  exact k
theorem eTest (ha : a ε S = .ok (.bl t) S1) : dTest a ε S = .ok t S1 := by unfold dTest; rw [ha]; rfl
theorem eCond (ha : ba ε S = .ok t S1) (k : (if t = true then a ε S1 else b ε S1) = rd) : dIf ba a b ε S = rd := by
  rw [x_If, ha, x_bind]
  exact k
theorem eNeg {j : Int} (ha : a ε S = .ok (.int j) S1) : dNeg a ε S = .ok (.int (-j)) S1 := by unfold dNeg; rw [ha]; rfl
theorem eNil : dNil ε S = .ok [] S := rfl
theorem eCons (ha : a ε S = .ok d S1) (hr : ar ε S1 = .ok ds S2) : dCons a ar ε S = .ok (d :: ds) S2 := by
  rw [x_Cons, ha, x_bind, hr, x_bind]
theorem eTup (hr : ar ε S = .ok ds S1) (h : ds.length ≤ 1000 := by simp) : dTup ar ε S = .ok (.tup ds) S1 := by
  rw [x_Tup, hr, x_bind, x_mkTup h]
theorem eCall (hr : ar ε S = .ok ds S1) (k : F ds S1 = rd) (h : ds.length = n := by rfl) : dCall n F ar ε S = rd := by
  rw [x_Call, hr, x_bind, if_pos h]
  exact k
theorem eFn (hr : ar ε S = .ok ds S1) (k : F ds S1 = rd) : dFn F ar ε S = rd := by
  rw [x_Fn, hr, x_bind]
  exact k
theorem eFld (ha : a ε S = .ok (.ref n) S1) (hn : S1[n]? = some (.ins c fs)) (hf : fs.lookup f = some x) : dFld f a ε S = .ok x S1 := by
  unfold dFld
  rw [ha, x_bind]
  simp only [insAt, hn, hf]
theorem eSetF (ha : a ε S = .ok x S1) (hb : b ε S1 = .ok (.ref n) S2) (hn : S2[n]? = some (.ins c fs)) (hl : fs.length < 1000) : sFldD f a b ε S = .ok (.nx ε) (S2.set n (.ins c (putFD f x fs))) := by
  unfold sFldD
  rw [ha, x_sE, hb, x_sE]
  simp only [insAt, hn]
  rw [if_pos hl]
theorem eApp (ha : a ε S = .ok (.ref n) S) (hn : S[n]? = some (.lst ds)) (hb : b ε S = .ok x S) (hl : ds.length < big) : dAppend a b ε S = .ok .non (S.set n (.lst (ds ++ [x]))) := by
  unfold dAppend
  rw [ha, x_bind]
  simp only [lstAt, hn, hb, x_bind]
  rw [if_pos hl]
theorem eMeth (ha : a ε S = .ok (.ref n) S1) (hn : S1[n]? = some (.ins c fs)) (hf : fs.lookup m = none) (hr : ar ε S1 = .ok ds S2) (k : F (.ref n :: ds) S2 = rd) (hl : ds.length + 1 = np := by rfl) : dMeth c m np F a ar ε S = rd := by
  unfold dMeth
  rw [ha, x_bind]
  simp only [insAt, hn]
  rw [if_pos (by simp [hf]), hr, x_bind, if_pos hl]
  exact k
theorem eGetD {k : Key} {kvs : List (Key × D)} (hn : S[n]? = some (.dct kvs)) (hk : keyD e = some k) (hv : valD kvs k = some x) : oGet (.ref n) e S = .ok x S := by
  unfold oGet
  simp only [dctAt, hn, hk, hv]
theorem eGetL {j : Int} (hn : S[n]? = some (.lst ds)) (hv : atI ds j = some x) : oGet (.ref n) (.int j) S = .ok x S := x_get (ds := ds) (by simp only [dctAt, hn]) (by simp only [items, hn]) hv
theorem ePutD {k : Key} {kvs : List (Key × D)} (hc : a ε S = .ok x S1) (ho : b ε S1 = .ok (.ref n) S1) {kk : Den} (hk : kk ε S1 = .ok e S1) (hn : S1[n]? = some (.dct kvs)) (hj : keyD e = some k) (hl : kvs.length < big) : sPut b kk a ε S = .ok (.nx ε) (S1.set n (.dct (putD kvs k x))) := by
  unfold sPut
  rw [hc, x_sE, ho, x_sE, hk, x_sE]
  simp only [dctAt, hn, hj]
  rw [if_pos hl]
end
section
variable {L : Pl} {S : Sto} {st : Stt}
theorem big5 {n : Nat} (h : n < 100000) : n < big := Nat.lt_trans h (by decide)
theorem kept_val {k : Str → Int} {x : Str} (hx : x ∈ abcd) : valD (keptD k) (.inr x) = some (.int (k x)) := by
  simp only [abcd, List.mem_cons, List.not_mem_nil, or_false] at hx
  rcases hx with rfl | rfl | rfl | rfl <;> rfl
theorem kept_put {k : Str → Int} {x : Str} {v : Int} (hx : x ∈ abcd) : putD (keptD k) (.inr x) (.int v) = keptD (fun y => if y = x then v else k y) := by
  simp only [abcd, List.mem_cons, List.not_mem_nil, or_false] at hx
  rcases hx with rfl | rfl | rfl | rfl <;> rfl
theorem gset {α : Type} {l : List α} {i j : Nat} {x y : α} (h : l[j]? = some y) (hn : i ≠ j) : (l.set i x)[j]? = some y := by rw [List.getElem?_set_ne hn]; exact h
theorem gsame {α : Type} {l : List α} {i : Nat} {x y : α} (h : l[i]? = some y) : (l.set i x)[i]? = some x := by
  rw [List.getElem?_set_self (List.getElem?_eq_some_iff.mp h).1]
structure Nes (L : Pl) : Prop where
  a : L.w ≠ L.kept
  b : L.w ≠ L.spoken
  c : L.w ≠ L.marks
  d : L.w ≠ L.cells
  e : L.kept ≠ L.spoken
  f : L.kept ≠ L.marks
  g : L.kept ≠ L.cells
  h : L.spoken ≠ L.marks
  i : L.spoken ≠ L.cells
  j : L.marks ≠ L.cells
  ra : L.w ≠ L.run
  rb : L.kept ≠ L.run
  rc : L.spoken ≠ L.run
  rd : L.marks ≠ L.run
  re : L.cells ≠ L.run
  qa : L.w ≠ L.asked
  qb : L.kept ≠ L.asked
  qc : L.spoken ≠ L.asked
  qd : L.marks ≠ L.asked
  qe : L.cells ≠ L.asked
theorem Apart.nes (ap : Apart L) : Nes L := by
  have nd := ap.nd
  have nr := ap.run
  have na := ap.asked
  simp only [Pl.mut, List.nodup_cons, List.mem_cons, List.not_mem_nil, or_false, not_or] at nd nr na
  obtain ⟨⟨a, b, c, d⟩, ⟨e, f, g⟩, ⟨h, i⟩, j, _⟩ := nd
  obtain ⟨r1, r2, r3, r4, r5⟩ := nr
  obtain ⟨q1, q2, q3, q4, q5⟩ := na
  exact ⟨a, b, c, d, e, f, g, h, i, j, Ne.symm r1, Ne.symm r2, Ne.symm r3, Ne.symm r4, Ne.symm r5, Ne.symm q1, Ne.symm q2, Ne.symm q3, Ne.symm q4, Ne.symm q5⟩
theorem Rep.setMarks (R : Rep L S st) (N : Nes L) (ms : List D) : Rep L (S.set L.marks (.lst ms)) { st with marks := ms } :=
  ⟨gset R.run N.rd, gset R.w N.c.symm, gset R.kept N.f.symm, gset R.spoken N.h.symm, gsame R.marks, gset R.cells N.j, gset R.asked N.qd⟩
theorem Rep.setSpoken (R : Rep L S st) (N : Nes L) (ms : List Int) : Rep L (S.set L.spoken (.lst (ms.map .int))) { st with spoken := ms } :=
  ⟨gset R.run N.rc, gset R.w N.b.symm, gset R.kept N.e.symm, gsame R.spoken, gset R.marks N.h, gset R.cells N.i, gset R.asked N.qc⟩
theorem Rep.setCells (R : Rep L S st) (N : Nes L) (ms : List Int) : Rep L (S.set L.cells (.lst (ms.map .int))) { st with cells := ms } :=
  ⟨gset R.run N.re, gset R.w N.d.symm, gset R.kept N.g.symm, gset R.spoken N.i.symm, gset R.marks N.j.symm, gsame R.cells, gset R.asked N.qe⟩
theorem Rep.setKept (R : Rep L S st) (N : Nes L) (k : Str → Int) : Rep L (S.set L.kept (.dct (keptD k))) { st with kept := k } :=
  ⟨gset R.run N.rb, gset R.w N.a.symm, gsame R.kept, gset R.spoken N.e, gset R.marks N.f, gset R.cells N.g, gset R.asked N.qb⟩
theorem Rep.setMany (R : Rep L S st) (N : Nes L) (m : Nat) : Rep L (S.set L.w (.ins "World" (wldF L m))) { st with many := m } :=
  ⟨gset R.run N.ra, gsame R.w, gset R.kept N.a, gset R.spoken N.b, gset R.marks N.c, gset R.cells N.d, gset R.asked N.qa⟩
theorem Rep.app (R : Rep L S st) (E : Sto) : Rep L (S ++ E) st := by
  have g : ∀ {n o}, S[n]? = some o → (S ++ E)[n]? = some o := fun {n o} e => by
    rw [List.getElem?_append_left (List.getElem?_eq_some_iff.mp e).1]
    exact e
  exact ⟨g R.run, g R.w, g R.kept, g R.spoken, g R.marks, g R.cells, g R.asked⟩
theorem touched_read (n : Nat) {x : Str} (ap : Apart L) (R : Rep L S st) (hf : Fits (tRead x st).2) (hx : x ∈ abcd) :
    ∃ S', csem (n + 2) .m_World_touched [.ref L.w, .tup [.str "read", .str x]] S = .ok (.int (tRead x st).1) S' ∧ Frm L S S' ∧ Rep L S' (tRead x st).2 := by
  have hm := hf.m
  simp only [tRead, List.length_append, List.length_singleton] at hm
  refine ⟨S.set L.marks (.lst (st.marks ++ [markR x (st.kept x)])), ?_, Frm.set (by simp [Pl.mut]), R.setMarks ap.nes _⟩
  rw [cs_m_World_touched]
  refine run_rt ?_
  unfold b_m_World_touched
  refine eSeq (eIfF (eZB (zEqS (zG zV))) (eIfT (eZB (zEqS (zG zV))) (eAsg (eBin (eFld (eZ zV) R.w rfl) (eZ (zG zV)) (eGetD R.kept rfl (kept_val hx)))))) ?_
  refine eSkip (eZB (zEqS (zG zV))) (eSkip (eZB (zEqS (zG zV))) (eSeq (eExpr (eApp (eFld (eZ zV) R.w rfl) R.marks (eCond (eZB (zIn (qs := ["write", "say"]) (t := false) (zG zV) (fun _ => rfl))) ?_) (big5 (by omega)))) (eRet (eZ zV))))
  rw [if_neg Bool.false_ne_true]
  rfl
theorem touched_write (n : Nat) {x : Str} {v : Int} (ap : Apart L) (R : Rep L S st) (hf : Fits (tWrt x v st).2) (hx : x ∈ abcd) :
    ∃ S', csem (n + 2) .m_World_touched [.ref L.w, .tup [.str "write", .str x, .int v]] S = .ok (.int (tWrt x v st).1) S' ∧ Frm L S S' ∧ Rep L S' (tWrt x v st).2 := by
  have hm := hf.m
  simp only [tWrt, List.length_append, List.length_singleton] at hm
  have R1 := R.setKept ap.nes fun y => if y = x then v else st.kept y
  refine ⟨(S.set L.kept (.dct (keptD fun y => if y = x then v else st.kept y))).set L.marks (.lst (st.marks ++ [markW x v])), ?_, (Frm.set (by simp [Pl.mut])).trans (Frm.set (by simp [Pl.mut])), R1.setMarks ap.nes _⟩
  rw [cs_m_World_touched]
  refine run_rt ?_
  unfold b_m_World_touched
  refine eSeq (eIfF (eZB (zEqS (zG zV))) (eIfF (eZB (zEqS (zG zV))) (eAsg (eBin (eZ zV) (eNeg (eZ zC)) rfl)))) ?_
  have this := ePutD (a := dVar 2) (b := dFld "kept" (dVar 0)) (kk := dBin oGet (dVar 1) (dC (.int 1))) (ε := [some (D.ref L.w), some (.tup [.str "write", .str x, .int v]), some (.int v)]) (S := S) (eZ zV) (eFld (eZ zV) R.w rfl) (eZ (zG zV)) R.kept rfl (show 4 < big by decide)
  rw [kept_put hx] at this
  refine eSeq (eIfT (eZB (zEqS (zG zV))) this) ?_
  refine eSkip (eZB (zEqS (zG zV))) (eSeq (eExpr (eApp (eFld (eZ zV) R1.w rfl) R1.marks (eCond (eZB (zIn (qs := ["write", "say"]) (t := true) (zG zV) (fun _ => rfl))) ?_) (big5 (show st.marks.length < 100000 by omega)))) (eRet (eZ zV)))
  rw [if_pos rfl]
  rfl
theorem touched_say (n : Nat) {v : Int} (ap : Apart L) (R : Rep L S st) (hf : Fits (tSayd v st).2) :
    ∃ S', csem (n + 2) .m_World_touched [.ref L.w, .tup [.str "say", .int v]] S = .ok (.int (tSayd v st).1) S' ∧ Frm L S S' ∧ Rep L S' (tSayd v st).2 := by
  have hm := hf.m
  have hs := hf.s
  simp only [tSayd, List.length_append, List.length_singleton] at hm hs
  have R1 := R.setSpoken ap.nes (st.spoken ++ [v])
  refine ⟨(S.set L.spoken (.lst ((st.spoken ++ [v]).map .int))).set L.marks (.lst (st.marks ++ [markS v])), ?_, (Frm.set (by simp [Pl.mut])).trans (Frm.set (by simp [Pl.mut])), R1.setMarks ap.nes _⟩
  rw [cs_m_World_touched]
  refine run_rt ?_
  unfold b_m_World_touched
  refine eSeq (eIfF (eZB (zEqS (zG zV))) (eIfF (eZB (zEqS (zG zV))) (eAsg (eBin (eZ zV) (eNeg (eZ zC)) rfl)))) ?_
  refine eSkip (eZB (zEqS (zG zV))) (eSeq (eIfT (eZB (zEqS (zG zV))) (eExpr (d := .non) (S1 := S.set L.spoken (.lst ((st.spoken ++ [v]).map .int))) ?_)) (eSeq (eExpr (eApp (eFld (eZ zV) R1.w rfl) R1.marks (eCond (eZB (zIn (qs := ["write", "say"]) (t := true) (zG zV) (fun _ => rfl))) ?_) (big5 (show st.marks.length < 100000 by omega)))) (eRet (eZ zV))))
  · rw [List.map_append]
    exact eApp (eFld (eZ zV) R.w rfl) R.spoken (eZ zV) (big5 (by rw [List.length_map]; omega))
  · rw [if_pos rfl]
    rfl
theorem touched_ask (n : Nat) (ap : Apart L) (R : Rep L S st) (hf : Fits (tAskd st).2) :
    ∃ S', csem (n + 2) .m_World_touched [.ref L.w, .tup [.str "ask"]] S = .ok (.int (tAskd st).1) S' ∧ Frm L S S' ∧ Rep L S' (tAskd st).2 := by
  have hm := hf.m
  simp only [tAskd, List.length_append, List.length_singleton] at hm
  have R1 := R.setMany ap.nes (st.many + 1)
  refine ⟨(S.set L.w (.ins "World" (wldF L (st.many + 1)))).set L.marks (.lst (st.marks ++ [markA ((st.asked[st.many]?).getD 0)])), ?_, (Frm.set (by simp [Pl.mut])).trans (Frm.set (by simp [Pl.mut])), R1.setMarks ap.nes _⟩
  rw [cs_m_World_touched]
  refine run_rt ?_
  unfold b_m_World_touched
  have e0 : dFld "many" (dVar 0) (List.map some [D.ref L.w, .tup [.str "ask"]] ++ List.replicate (3 - 2) none) S = .ok (.int st.many) S := eFld (eZ zV) R.w rfl
  have e1 : dFld "asked" (dVar 0) (List.map some [D.ref L.w, .tup [.str "ask"]] ++ List.replicate (3 - 2) none) S = .ok (.ref L.asked) S := eFld (eZ zV) R.w rfl
  have el : fLen [.ref L.asked] S = .ok (.int st.asked.length) S := by
    unfold fLen
    simp only [items, R.asked, List.length_map]
  have e4 : sFldD "many" (dBin oAdd (dFld "many" (dVar 0)) (dC (.int 1))) (dVar 0) [some (D.ref L.w), some (.tup [.str "ask"]), some (.int ((st.asked[st.many]?).getD 0))] S = .ok (.nx [some (D.ref L.w), some (.tup [.str "ask"]), some (.int ((st.asked[st.many]?).getD 0))]) (S.set L.w (.ins "World" (wldF L (st.many + 1)))) :=
    eSetF (eBin (eFld (eZ zV) R.w rfl) (eZ zC) (x_addI (i := st.many) (j := 1))) (eZ zV) R.w (by show 5 < 1000; decide)
  refine eSeq (eIfT (eZB (zEqS (zG zV))) (eLet (d := .int ((st.asked[st.many]?).getD 0)) (S1 := S) (eCond (S1 := S) (eTest (t := decide (st.many < st.asked.length)) (eBin e0 (eFn (eCons e1 eNil) el) ?_)) ?_) e4)) ?_
  · rw [x_ltI]
    congr 2
    simp
  · by_cases h : st.many < st.asked.length
    · rw [if_pos (by simpa using h)]
      refine eBin e1 e0 (eGetL R.asked ?_)
      rw [atI_in (by omega) (by simpa using h), List.getElem?_map, Int.toNat_natCast, List.getElem?_eq_getElem h]
      rfl
    · rw [if_neg (by simpa using h), List.getElem?_eq_none (by omega)]
      rfl
  refine eSkip (eZB (zEqS (zG zV))) (eSkip (eZB (zEqS (zG zV))) (eSeq (eExpr (eApp (eFld (eZ zV) R1.w rfl) R1.marks (eCond (eZB (zIn (qs := ["write", "say"]) (t := false) (zG zV) (fun _ => rfl))) ?_) (big5 (show st.marks.length < 100000 by omega)))) (eRet (eZ zV))))
  rw [if_neg Bool.false_ne_true]
  rfl
theorem touch_sem (n : Nat) {mk : D} {v : Int} {S' : Sto} (R : Rep L S st) (h : csem (n + 2) .m_World_touched [.ref L.w, mk] S = .ok (.int v) S') : csem (n + 3) .m_Run_touch [.ref L.run, mk] S = .ok (.int v) S' := by
  rw [cs_m_Run_touch]
  refine run_rt ?_
  unfold b_m_Run_touch
  exact eTake (eTest (t := true) (eBin (eFld (eZ zV) R.run rfl) (eZ zC) rfl)) (eRet (eMeth (eFld (eZ zV) R.run rfl) R.w rfl (eCons (eZ zV) eNil) h))
end
end DL

set_option Elab.async false
set_option linter.all false
set_option maxRecDepth 100000
set_option maxHeartbeats 1000000
namespace DL
open PySem L2
inductive EV where
  | int (v : Int) | cell (i : Nat) | th (t : Thk)
abbrev Ev := Str → Option EV
abbrev RS := List Int → List Thk → Thk
def putE (x : Str) (v : EV) (env : Ev) : Ev := fun y => if y = x then some v else env y
def envOf (xs : List (Str × EV)) : Ev := fun y => xs.lookup y
def iterT (t : Thk) : Nat → Stt → Stt
  | 0, st => st
  | n + 1, st => iterT t n (t st).2
def Stt.setC (s : Stt) (i : Nat) (v : Int) : Stt := ⟨s.kept, s.asked, s.many, s.spoken, s.marks, s.cells.set i v⟩
def Stt.push (s : Stt) (v : Int) : Stt := ⟨s.kept, s.asked, s.many, s.spoken, s.marks, s.cells ++ [v]⟩
mutual
def den (rs : List RS) : Deed → Ev → Thk
  | .num i, _ => fun st => (i, st)
  | .nam x, env => fun st => match env x with
    | some (.int v) => (v, st)
    | _ => (0, st)
  | .dod x, env => fun st => match env x with
    | some (.th t) => t st
    | _ => (0, st)
  | .ask, _ => tAskd
  | .rd x, env => fun st => match env x with
    | some (.cell i) => ((st.cells[i]?).getD 0, st)
    | _ => tRead x st
  | .wr x a, env => fun st => match env x with
    | some (.cell i) => ((den rs a env st).1, (den rs a env st).2.setC i (den rs a env st).1)
    | _ => tWrt x (den rs a env st).1 (den rs a env st).2
  | .say a, env => fun st => tSayd (den rs a env st).1 (den rs a env st).2
  | .lt x a b, env => fun st => den rs b (putE x (.int (den rs a env st).1) env) (den rs a env st).2
  | .own x a b, env => fun st => den rs b (putE x (.cell (den rs a env st).2.cells.length) env) ((den rs a env st).2.push (den rs a env st).1)
  | .iff a b c, env => fun st => if (den rs a env st).1 ≠ 0 then den rs b env (den rs a env st).2 else den rs c env (den rs a env st).2
  | .two .thn a b, env => fun st => den rs b env (den rs a env st).2
  | .two .add a b, env => fun st => (((den rs a env st).1 + (den rs b env (den rs a env st).2).1) % 1009, (den rs b env (den rs a env st).2).2)
  | .two .les a b, env => fun st => (if (den rs a env st).1 < (den rs b env (den rs a env st).2).1 then 1 else 0, (den rs b env (den rs a env st).2).2)
  | .two .lop a b, env => fun st => (0, iterT (den rs b env) ((den rs a env st).1 % 4).toNat (den rs a env st).2)
  | .call i ps hs, env => fun st => ((rs[i]?).getD fun _ _ st => (0, st)) (denL rs ps env st).1 (denT rs hs env) (denL rs ps env st).2
def denL (rs : List RS) : List Deed → Ev → Stt → List Int × Stt
  | [], _, st => ([], st)
  | d :: ds, env, st => ((den rs d env st).1 :: (denL rs ds env (den rs d env st).2).1, (denL rs ds env (den rs d env st).2).2)
def denT (rs : List RS) : List Deed → Ev → List Thk
  | [], _ => []
  | d :: ds, env => den rs d env :: denT rs ds env
end
def Grow (t : Thk) : Prop := ∀ st, Lst st (t st).2
def GrowE (env : Ev) : Prop := ∀ x t, env x = some (.th t) → Grow t
def GrowR (rs : List RS) : Prop := ∀ f ∈ rs, ∀ ws ts, (∀ t ∈ ts, Grow t) → Grow (f ws ts)
theorem grow_ask : Grow tAskd := fun st => ⟨by simp [tAskd], by simp [tAskd], by simp [tAskd]⟩
theorem grow_read (x : Str) : Grow (tRead x) := fun st => ⟨by simp [tRead], by simp [tRead], by simp [tRead]⟩
theorem grow_wrt (x : Str) (v : Int) : Grow (tWrt x v) := fun st => ⟨by simp [tWrt], by simp [tWrt], by simp [tWrt]⟩
theorem grow_say (v : Int) : Grow (tSayd v) := fun st => ⟨by simp [tSayd], by simp [tSayd], by simp [tSayd]⟩
theorem GrowE.put {env : Ev} {x : Str} {v : EV} (h : GrowE env) (hv : ∀ t, v = .th t → Grow t) : GrowE (putE x v env) := fun y t e => by
  unfold putE at e
  split at e
  · cases e; exact hv t rfl
  · exact h y t e
theorem grow_iter {t : Thk} (h : Grow t) : ∀ n st, Lst st (iterT t n st)
  | 0, st => Lst.refl
  | n + 1, st => (h st).trans (grow_iter h n _)
mutual
theorem den_grow {rs : List RS} (hr : GrowR rs) : ∀ (d : Deed) {env : Ev}, GrowE env → Grow (den rs d env)
  | .num i, env, h => fun st => by unfold den; exact .refl
  | .nam x, env, h => fun st => by unfold den; split <;> exact .refl
  | .dod x, env, h => fun st => by
    unfold den
    split
    · rename_i t e; exact h x t e st
    · exact .refl
  | .ask, env, h => by unfold den; exact grow_ask
  | .rd x, env, h => fun st => by
    unfold den
    split
    · exact .refl
    · exact grow_read x st
  | .wr x a, env, h => fun st => by
    have ga := den_grow hr a h st
    unfold den
    split
    · exact ga.trans ⟨Nat.le_refl _, Nat.le_refl _, by simp [Stt.setC]⟩
    · exact ga.trans (grow_wrt x _ _)
  | .say a, env, h => fun st => by
    have ga := den_grow hr a h st
    unfold den
    exact ga.trans (grow_say _ _)
  | .lt x a b, env, h => fun st => by
    have ga := den_grow hr a h st
    have gb := den_grow hr b (h.put (x := x) (v := .int (den rs a env st).1) fun t e => by cases e) (den rs a env st).2
    unfold den
    exact ga.trans gb
  | .own x a b, env, h => fun st => by
    have ga := den_grow hr a h st
    have gb := den_grow hr b (h.put (x := x) (v := .cell (den rs a env st).2.cells.length) fun t e => by cases e) ((den rs a env st).2.push (den rs a env st).1)
    unfold den
    exact (ga.trans (⟨Nat.le_refl _, Nat.le_refl _, by simp [Stt.push]⟩ : Lst (den rs a env st).2 ((den rs a env st).2.push (den rs a env st).1))).trans gb
  | .iff a b c, env, h => fun st => by
    have ga := den_grow hr a h st
    unfold den
    split
    · exact ga.trans (den_grow hr b h _)
    · exact ga.trans (den_grow hr c h _)
  | .two .thn a b, env, h => fun st => by
    unfold den
    exact (den_grow hr a h st).trans (den_grow hr b h _)
  | .two .add a b, env, h => fun st => by
    unfold den
    exact (den_grow hr a h st).trans (den_grow hr b h _)
  | .two .les a b, env, h => fun st => by
    unfold den
    exact (den_grow hr a h st).trans (den_grow hr b h _)
  | .two .lop a b, env, h => fun st => by
    unfold den
    exact (den_grow hr a h st).trans (grow_iter (den_grow hr b h) _ _)
  | .call i ps hs, env, h => fun st => by
    unfold den
    refine (denL_grow hr ps h st).trans ?_
    cases e : rs[i]? with
    | none => exact .refl
    | some f => exact hr f (List.mem_of_getElem? e) _ _ (denT_grow hr hs h) _
theorem denL_grow {rs : List RS} (hr : GrowR rs) : ∀ (ds : List Deed) {env : Ev}, GrowE env → ∀ st, Lst st (denL rs ds env st).2
  | [], env, h, st => by unfold denL; exact .refl
  | d :: ds, env, h, st => by
    unfold denL
    exact (den_grow hr d h st).trans (denL_grow hr ds h _)
theorem denT_grow {rs : List RS} (hr : GrowR rs) : ∀ (ds : List Deed) {env : Ev}, GrowE env → ∀ t ∈ denT rs ds env, Grow t
  | [], env, h, t, m => by unfold denT at m; cases m
  | d :: ds, env, h, t, m => by
    unfold denT at m
    rcases List.mem_cons.mp m with e | m
    · rw [e]; exact den_grow hr d h
    · exact denT_grow hr ds h t m
end
def Impl (L : Pl) (S0 : Sto) (c : Nat) (t : Thk) (p : D) (r m : Nat) : Prop :=
  ∀ n, m ≤ n → ∀ S st, Frm L S0 S → Rep L S st → c ≤ st.cells.length → Fits (t st).2 → ∃ S', csem n .m_Run_worth [.ref L.run, p, .ref r] S = .ok (.int (t st).1) S' ∧ Frm L S S' ∧ Rep L S' (t st).2
theorem Impl.up {L : Pl} {S S' : Sto} {c c' : Nat} {t : Thk} {p : D} {r m m' : Nat} (h : Impl L S c t p r m) (f : Frm L S S') (hc : c ≤ c') (hm : m ≤ m') : Impl L S' c' t p r m' :=
  fun n hn S1 st f1 R k fi => h n (Nat.le_trans hm hn) S1 st (f.trans f1) R (Nat.le_trans hc k) fi
def EvOk (L : Pl) (S : Sto) (c m : Nat) (x : Str) (v : EV) (o : Option D) : Prop := match v with
  | .int v => o = some (.int v) ∧ kd x = 1
  | .cell i => o = some (.int (i : Int)) ∧ kd x = 2 ∧ i < c
  | .th t => (∃ p r, o = some (.tup [p, .ref r]) ∧ Impl L S c t p r m) ∧ kd x = 3
structure EnvOk (L : Pl) (S : Sto) (c r m b : Nat) (env : Ev) (K : List Str) : Prop where
  d : ∃ kvs, S[r]? = some (.dct kvs) ∧ kvs.length ≤ b ∧ ∀ x, match env x with
    | none => valD kvs (.inr x) = none
    | some v => EvOk L S c m x v (valD kvs (.inr x))
  r : r ∉ L.mut
  k : ∀ x ∈ K, env x ≠ none
theorem EvOk.up {L : Pl} {S S' : Sto} {c c' m : Nat} {x : Str} {v : EV} {o : Option D} (h : EvOk L S c m x v o) (f : Frm L S S') (hc : c ≤ c') : EvOk L S' c' m x v o := by
  cases v with
  | int v => exact h
  | cell i => exact ⟨h.1, h.2.1, Nat.lt_of_lt_of_le h.2.2 hc⟩
  | th t =>
    obtain ⟨⟨p, r, e, i⟩, k⟩ := h
    exact ⟨⟨p, r, e, i.up f hc (Nat.le_refl _)⟩, k⟩
theorem EnvOk.up {L : Pl} {S S' : Sto} {c c' r m b : Nat} {env : Ev} {K : List Str} (h : EnvOk L S c r m b env K) (f : Frm L S S') (hc : c ≤ c') : EnvOk L S' c' r m b env K := by
  obtain ⟨⟨kvs, e, hl, hx⟩, hr, hk⟩ := h
  refine ⟨⟨kvs, f.keep _ _ hr e, hl, fun x => ?_⟩, hr, hk⟩
  have := hx x
  cases q : env x with
  | none => rw [q] at this; exact this
  | some v => rw [q] at this; exact this.up f hc
end DL

set_option Elab.async false
set_option linter.all false
set_option maxRecDepth 100000
set_option maxHeartbeats 1000000
namespace DL
open PySem L2
theorem valD_put {κ : Type} [DecidableEq κ] (k : κ) (v : D) (k' : κ) : ∀ kvs : List (κ × D), valD (putD kvs k v) k' = if k' = k then some v else valD kvs k' := by
  intro kvs
  unfold putD
  split
  · rename_i h
    unfold valD
    induction kvs with
    | nil => simp at h
    | cons a r ih =>
      obtain ⟨ka, va⟩ := a
      by_cases e : ka = k
      · subst e
        by_cases e2 : k' = ka
        · subst e2; simp
        · have e3 : ¬ ka = k' := fun q => e2 q.symm
          simp only [List.map_cons, if_true, List.find?_cons, e3, e2, decide_false, if_false]
          by_cases hr : (r.any fun kv => decide (kv.1 = ka)) = true
          · rw [ih hr, if_neg e2]
          · have : r.map (fun kv => if kv.1 = ka then (kv.1, v) else kv) = r := by
              refine (List.map_congr_left (g := id) fun x hx => ?_).trans (List.map_id _)
              rw [if_neg]
              · rfl
              · intro q
                exact hr (List.any_eq_true.mpr ⟨x, hx, decide_eq_true q⟩)
            rw [this]
      · have hr : (r.any fun kv => decide (kv.1 = k)) = true := by simpa [e] using h
        simp only [List.map_cons, e, if_false, List.find?_cons]
        by_cases e2 : ka = k'
        · subst e2
          simp [e]
        · simp only [e2, decide_false]
          exact ih hr
  · rename_i h
    unfold valD
    rw [List.find?_append]
    by_cases e : k' = k
    · subst e
      have : kvs.find? (fun kv => decide (kv.1 = k')) = none := by
        rw [List.find?_eq_none]
        intro x hx q
        exact h (List.any_eq_true.mpr ⟨x, hx, q⟩)
      simp [this]
    · have e3 : ¬ k = k' := fun q => e q.symm
      rw [if_neg e]
      simp [e3]
theorem putD_len {κ : Type} [DecidableEq κ] (k : κ) (v : D) (kvs : List (κ × D)) : (putD kvs k v).length ≤ kvs.length + 1 := by
  unfold putD
  split <;> simp
section
variable {L : Pl} {S S0 : Sto} {st : Stt} {ε : Env} {c r m n b : Nat} {env : Ev} {K : List Str} {x : Str} {t : Thk} {p : D}
theorem Rep.lt (R : Rep L S st) : ∀ k ∈ L.mut, k < S.length := by
  intro k h
  simp only [Pl.mut, List.mem_cons, List.not_mem_nil, or_false] at h
  rcases h with rfl | rfl | rfl | rfl | rfl
  · exact (List.getElem?_eq_some_iff.mp R.w).1
  · exact (List.getElem?_eq_some_iff.mp R.kept).1
  · exact (List.getElem?_eq_some_iff.mp R.spoken).1
  · exact (List.getElem?_eq_some_iff.mp R.marks).1
  · exact (List.getElem?_eq_some_iff.mp R.cells).1
theorem EnvOk.get (h : EnvOk L S c r m b env K) (hx : x ∈ K) : ∃ v kvs, env x = some v ∧ S[r]? = some (.dct kvs) ∧ EvOk L S c m x v (valD kvs (.inr x)) := by
  obtain ⟨⟨kvs, e, _, q⟩, _, hk⟩ := h
  have := q x
  cases e2 : env x with
  | none => exact absurd e2 (hk x hx)
  | some v => rw [e2] at this; exact ⟨v, kvs, rfl, e, this⟩
theorem kd_abcd : ∀ x ∈ abcd, kd x = 0 := by decide +kernel
theorem EnvOk.none (h : EnvOk L S c r m b env K) (hx : x ∈ abcd) : env x = none ∧ ∃ kvs, S[r]? = some (.dct kvs) ∧ valD kvs (.inr x) = none := by
  obtain ⟨⟨kvs, e, _, q⟩, _, _⟩ := h
  have := q x
  have k0 := kd_abcd x hx
  cases e2 : env x with
  | none => rw [e2] at this; exact ⟨rfl, kvs, e, this⟩
  | some v =>
    rw [e2] at this
    cases v with
    | int v => have := this.2; omega
    | cell i => have := this.2.1; omega
    | th t => have := this.2; omega
theorem eW {a bb : Den} (I : Impl L S0 c t p r m) (hn : m ≤ n) (F : Frm L S0 S) (R : Rep L S st) (hc : c ≤ st.cells.length) (hf : Fits (t st).2) (h0 : ε[0]? = some (some (.ref L.run))) (ha : ZE a ε p) (hb : ZE bb ε (.ref r)) :
    ∃ S', dMeth "Run" "worth" 3 (csem n .m_Run_worth) (dVar 0) (dCons a (dCons bb dNil)) ε S = .ok (.int (t st).1) S' ∧ Frm L S S' ∧ Rep L S' (t st).2 := by
  obtain ⟨S', e, f, R'⟩ := I n hn S st F R hc hf
  exact ⟨S', eMeth (eZ (zV h0)) R.run rfl (eCons (eZ ha) (eCons (eZ hb) eNil)) e, f, R'⟩
theorem eGet2 {a k x : Den} {kk d : D} {j : Key} {kvs : List (Key × D)} (ha : ZE a ε (.ref r)) (hk : ZE k ε kk) (hx : ZE x ε d) (hn : S[r]? = some (.dct kvs)) (hj : keyD kk = some j) : dGet2 a k x ε S = .ok ((valD kvs j).getD d) S := by
  unfold dGet2
  rw [eZ ha, x_bind]
  simp only [dctAt, hn]
  rw [eZ hk, x_bind, eZ hx, x_bind]
  simp only [hn, hj]
theorem isi_s : isiD "str" S (.str x) = some true := by rfl
theorem isi_i {i : Int} : isiD "str" S (.int i) = some false := by rfl
theorem eIsi {a : Den} {d : D} {q : Bool} {cn : String} {S1 : Sto} (ha : a ε S = .ok d S1) (h : isiD cn S1 d = some q) : dIsi cn a ε S = .ok (.bl q) S1 := by
  unfold dIsi
  rw [ha, x_bind, h]
theorem shelf_read (ap : Apart L) (E : EnvOk L S c r m b env K) (R : Rep L S st) (hc : c ≤ st.cells.length) (hf : Fits (den [] (.rd x) env st).2) (ho : (x ∈ K ∧ kd x = 2) ∨ x ∈ abcd) :
    ∃ S', csem (n + 4) .m_Run_at_shelf [.ref L.run, .tup [.str "read", .str x], .ref r] S = .ok (.int (den [] (.rd x) env st).1) S' ∧ Frm L S S' ∧ Rep L S' (den [] (.rd x) env st).2 := by
  rw [cs_m_Run_at_shelf]
  rcases ho with ⟨hk, k2⟩ | hx
  · obtain ⟨v, kvs, ev, er, ok⟩ := E.get hk
    cases v with
    | int v => have := ok.2; omega
    | th t => have := ok.2; omega
    | cell i =>
      have hi : i < st.cells.length := by have := ok.2.2; omega
      unfold den
      simp only [ev]
      refine ⟨S, ?_, Frm.refl, R⟩
      refine run_rt ?_
      unfold b_m_Run_at_shelf
      have e0 := eGet2 (ε := List.map some [D.ref L.run, .tup [.str "read", .str x], .ref r] ++ List.replicate (5 - 3) none) (a := dVar 2) (k := dBin oGet (dVar 1) (dC (.int 1))) (x := dBin oGet (dVar 1) (dC (.int 1))) zV (zG zV) (zG zV) er rfl
      rw [ok.1] at e0
      refine eLet e0 ?_
      refine eTake (eZB (zEqS (zG zV))) (eRet (eCond (eTest (eIsi (eZ zV) isi_i)) ?_))
      rw [if_neg Bool.false_ne_true]
      refine eBin (eFld (eZ zV) R.run rfl) (eZ zV) (eGetL R.cells ?_)
      show atI (List.map D.int st.cells) (i : Int) = _
      rw [atI_in (by omega) (by simpa using hi), List.getElem?_map, Int.toNat_natCast, List.getElem?_eq_getElem hi]
      rfl
  · obtain ⟨en, kvs, er, ek⟩ := E.none hx
    unfold den at hf ⊢
    simp only [en] at hf ⊢
    obtain ⟨S', e, f, R'⟩ := touched_read n ap R hf hx
    refine ⟨S', ?_, f, R'⟩
    have e2 := touch_sem n R e
    refine run_rt ?_
    unfold b_m_Run_at_shelf
    have e0 := eGet2 (ε := List.map some [D.ref L.run, .tup [.str "read", .str x], .ref r] ++ List.replicate (5 - 3) none) (a := dVar 2) (k := dBin oGet (dVar 1) (dC (.int 1))) (x := dBin oGet (dVar 1) (dC (.int 1))) zV (zG zV) (zG zV) er rfl
    rw [ek] at e0
    refine eLet e0 ?_
    refine eTake (eZB (zEqS (zG zV))) (eRet (eCond (eTest (eIsi (eZ zV) isi_s)) ?_))
    rw [if_pos rfl]
    exact eMeth (eZ zV) R.run rfl (eCons (eTup (eCons (eZ zC) (eCons (eZ zV) eNil))) eNil) e2
end
end DL

set_option Elab.async false
set_option linter.all false
set_option maxRecDepth 100000
set_option maxHeartbeats 1000000
namespace DL
open PySem L2
section
variable {L : Pl} {S S0 : Sto} {st : Stt} {ε : Env} {c r m n b M : Nat} {env : Ev} {K : List Str} {x : Str} {t : Thk} {p : D} {rs : List RS}
theorem ePutL {a b kk : Den} {d : D} {ds : List D} {i k : Nat} {S1 : Sto} (hv : a ε S = .ok d S1) (ho : b ε S1 = .ok (.ref k) S1) (hk : kk ε S1 = .ok (.int (i : Int)) S1) (hn : S1[k]? = some (.lst ds)) (hi : i < ds.length) : sPut b kk a ε S = .ok (.nx ε) (S1.set k (.lst (ds.set i d))) := by
  unfold sPut
  rw [hv, x_sE, ho, x_sE, hk, x_sE]
  simp only [dctAt, lstAt, hn]
  have : ixN ds.length (i : Int) = some i := by
    unfold ixN
    rw [if_pos (by omega), if_pos (by omega), Int.toNat_natCast]
  simp only [this]
theorem impl_wr {a : Deed} (ap : Apart L) (E : EnvOk L S0 c r m b env K) (ge : GrowE env) (gr : GrowR rs) (I : Impl L S0 c (den rs a env) (enc a) r M) (hM : 4 ≤ M) (ho : (x ∈ K ∧ kd x = 2) ∨ x ∈ abcd) : Impl L S0 c (den rs (.wr x a) env) (enc (.wr x a)) r (M + 2) := by
  intro n hn S st F R hc hf
  obtain ⟨n, rfl⟩ : ∃ k, n = k + 5 := ⟨n - 5, by omega⟩
  have g := den_grow gr a ge st
  have E' := E.up F (Nat.le_refl _)
  rw [cs_m_Run_worth]
  have wo : ∀ {v : Int} {S' : Sto}, csem (n + 4) .m_Run_at_shelf [.ref L.run, enc (.wr x a), .ref r] S = .ok (.int v) S' → runFn 3 6 (b_m_Run_worth (csem (n + 4)) (csem (n + 3))) [D.ref L.run, enc (.wr x a), .ref r] S = .ok (.int v) S' := fun {v S'} h => by
    refine run_rt ?_
    unfold b_m_Run_worth
    refine eLet (eZ (zG zV)) ?_
    exact eSkip (eZB (zEqS zV)) (eSkip (eZB (zEqS zV)) (eTake (eZB (zIn (qs := ["read", "write"]) zV (fun _ => rfl))) (eRet (eMeth (eZ zV) R.run rfl (eCons (eZ zV) (eCons (eZ zV) eNil)) h))))
  rcases ho with ⟨hk, k2⟩ | hx
  · obtain ⟨v, kvs, ev, er, ok⟩ := E'.get hk
    cases v with
    | int v => have := ok.2; omega
    | th t => have := ok.2; omega
    | cell i =>
      unfold den at hf ⊢
      simp only [ev] at hf ⊢
      have hfa : Fits (den rs a env st).2 := ⟨hf.m, hf.s, by have := hf.c; simpa [Stt.setC] using this⟩
      have hi : i < (den rs a env st).2.cells.length := by have := ok.2.2; have := g.c; omega
      have e0 := eGet2 (ε := List.map some [D.ref L.run, enc (.wr x a), .ref r] ++ List.replicate (5 - 3) none) (a := dVar 2) (k := dBin oGet (dVar 1) (dC (.int 1))) (x := dBin oGet (dVar 1) (dC (.int 1))) zV (zG zV) (zG zV) er rfl
      rw [ok.1] at e0
      obtain ⟨S', e, f, R'⟩ := eW (ε := [some (D.ref L.run), some (enc (.wr x a)), some (.ref r), some (.int (i : Int)), none]) (a := dBin oGet (dVar 1) (dC (.int 2))) (bb := dVar 2) (n := n + 3) I (by omega) F R hc hfa rfl (zG zV) zV
      refine ⟨S'.set L.cells (.lst (((den rs a env st).2.cells.set i (den rs a env st).1).map .int)), wo ?_, f.trans (Frm.set (by simp [Pl.mut])), R'.setCells ap.nes _⟩
      rw [cs_m_Run_at_shelf]
      refine run_rt ?_
      unfold b_m_Run_at_shelf
      refine eLet e0 ?_
      refine eSkip (eZB (zEqS (zG zV))) ?_
      refine eLet e ?_
      refine eSkip (eTest (eIsi (eZ zV) isi_i)) ?_
      have := ePutL (ε := [some (D.ref L.run), some (enc (.wr x a)), some (.ref r), some (.int (i : Int)), some (.int (den rs a env st).1)]) (a := dVar 4) (b := dFld "cells" (dVar 0)) (kk := dVar 3) (S := S') (eZ zV) (eFld (eZ zV) R'.run rfl) (eZ zV) R'.cells (by simpa using hi)
      rw [← List.map_set] at this
      exact eSeq this (eRet (eZ zV))
  · obtain ⟨en, kvs, er, ek⟩ := E'.none hx
    unfold den at hf ⊢
    simp only [en] at hf ⊢
    have hfa : Fits (den rs a env st).2 := Fits.of (grow_wrt x _ _) hf
    have e0 := eGet2 (ε := List.map some [D.ref L.run, enc (.wr x a), .ref r] ++ List.replicate (5 - 3) none) (a := dVar 2) (k := dBin oGet (dVar 1) (dC (.int 1))) (x := dBin oGet (dVar 1) (dC (.int 1))) zV (zG zV) (zG zV) er rfl
    rw [ek] at e0
    obtain ⟨S', e, f, R'⟩ := eW (ε := [some (D.ref L.run), some (enc (.wr x a)), some (.ref r), some (.str x), none]) (a := dBin oGet (dVar 1) (dC (.int 2))) (bb := dVar 2) (n := n + 3) I (by omega) F R hc hfa rfl (zG zV) zV
    obtain ⟨S2, e2, f2, R2⟩ := touched_write n (x := x) (v := (den rs a env st).1) ap R' hf hx
    have e3 := touch_sem n R' e2
    refine ⟨S2, wo ?_, f.trans f2, R2⟩
    rw [cs_m_Run_at_shelf]
    refine run_rt ?_
    unfold b_m_Run_at_shelf
    refine eLet e0 ?_
    refine eSkip (eZB (zEqS (zG zV))) ?_
    refine eLet e ?_
    exact eTake (eTest (eIsi (eZ zV) isi_s)) (eRet (eMeth (eZ zV) R'.run rfl (eCons (eTup (eCons (eZ zC) (eCons (eZ zV) (eCons (eZ zV) eNil)))) eNil) e3))
theorem impl_num {i : Int} : Impl L S0 c (den rs (.num i) env) (enc (.num i)) r 2 := by
  intro n hn S st F R hc hf
  obtain ⟨n, rfl⟩ : ∃ k, n = k + 2 := ⟨n - 2, by omega⟩
  unfold den
  refine ⟨S, ?_, Frm.refl, R⟩
  rw [cs_m_Run_worth]
  refine run_rt ?_
  unfold b_m_Run_worth
  refine eLet (eZ (zG zV)) ?_
  exact eTake (eZB (zEqS zV)) (eRet (eZ (zG zV)))
theorem impl_nam (E : EnvOk L S0 c r m b env K) (hk : x ∈ K) (k1 : kd x = 1) : Impl L S0 c (den rs (.nam x) env) (enc (.nam x)) r 2 := by
  intro n hn S st F R hc hf
  obtain ⟨n, rfl⟩ : ∃ k, n = k + 2 := ⟨n - 2, by omega⟩
  obtain ⟨v, kvs, ev, er, ok⟩ := (E.up F (Nat.le_refl _)).get hk
  cases v with
  | cell i => have := ok.2.1; omega
  | th t => have := ok.2; omega
  | int v =>
    unfold den
    simp only [ev]
    refine ⟨S, ?_, Frm.refl, R⟩
    rw [cs_m_Run_worth]
    refine run_rt ?_
    unfold b_m_Run_worth
    refine eLet (eZ (zG zV)) ?_
    exact eSkip (eZB (zEqS zV)) (eTake (eZB (zEqS zV)) (eRet (eBin (eZ zV) (eZ (zG zV)) (eGetD er rfl ok.1))))
theorem impl_dod (E : EnvOk L S0 c r m b env K) (hk : x ∈ K) (k3 : kd x = 3) : Impl L S0 c (den rs (.dod x) env) (enc (.dod x)) r (m + 2) := by
  intro n hn S st F R hc hf
  obtain ⟨n, rfl⟩ : ∃ k, n = k + 2 := ⟨n - 2, by omega⟩
  obtain ⟨v, kvs, ev, er, ok⟩ := (E.up F (Nat.le_refl _)).get hk
  cases v with
  | cell i => have := ok.2.1; omega
  | int v => have := ok.2; omega
  | th t =>
    obtain ⟨⟨p, r', eo, I⟩, _⟩ := ok
    unfold den at hf ⊢
    simp only [ev] at hf ⊢
    obtain ⟨S', e, f, R'⟩ := eW (ε := [some (D.ref L.run), some (enc (.dod x)), some (.ref r), some (.str "do"), some p, some (.ref r')]) (a := dVar 4) (bb := dVar 5) (n := n + 1) I (by omega) Frm.refl R hc hf rfl zV zV
    refine ⟨S', ?_, f, R'⟩
    rw [cs_m_Run_worth]
    refine run_rt ?_
    unfold b_m_Run_worth
    refine eLet (eZ (zG zV)) ?_
    refine eSkip (eZB (zEqS zV)) (eSkip (eZB (zEqS zV)) (eSkip (eZB (zIn (qs := ["read", "write"]) zV (fun _ => rfl))) (eSkip (eZB (zEqS zV)) (eSkip (eZB (zEqS zV)) (eTake (eZB (zEqS zV)) ?_)))))
    refine eLet (eBin (eZ zV) (eZ (zG zV)) (eGetD er rfl eo)) ?_
    exact eRet e
theorem impl_ask (ap : Apart L) : Impl L S0 c (den rs .ask env) (enc .ask) r 4 := by
  intro n hn S st F R hc hf
  obtain ⟨n, rfl⟩ : ∃ k, n = k + 4 := ⟨n - 4, by omega⟩
  unfold den at hf ⊢
  obtain ⟨S', e, f, R'⟩ := touched_ask n ap R hf
  have e3 := touch_sem n R e
  refine ⟨S', ?_, f, R'⟩
  rw [cs_m_Run_worth]
  refine run_rt ?_
  unfold b_m_Run_worth
  refine eLet (eZ (zG zV)) ?_
  exact eSkip (eZB (zEqS zV)) (eSkip (eZB (zEqS zV)) (eSkip (eZB (zIn (qs := ["read", "write"]) zV (fun _ => rfl))) (eTake (eZB (zEqS zV)) (eRet (eMeth (eZ zV) R.run rfl (eCons (eTup (eCons (eZ zC) eNil)) eNil) e3)))))
theorem den_rd (rs : List RS) : den rs (.rd x) env = den [] (.rd x) env := by unfold den; rfl
theorem impl_rd (ap : Apart L) (E : EnvOk L S0 c r m b env K) (ho : (x ∈ K ∧ kd x = 2) ∨ x ∈ abcd) : Impl L S0 c (den rs (.rd x) env) (enc (.rd x)) r 5 := by
  intro n hn S st F R hc hf
  obtain ⟨n, rfl⟩ : ∃ k, n = k + 5 := ⟨n - 5, by omega⟩
  rw [den_rd] at hf ⊢
  obtain ⟨S', e, f, R'⟩ := shelf_read (n := n) ap (E.up F (Nat.le_refl _)) R hc hf ho
  refine ⟨S', ?_, f, R'⟩
  rw [cs_m_Run_worth]
  refine run_rt ?_
  unfold b_m_Run_worth
  refine eLet (eZ (zG zV)) ?_
  exact eSkip (eZB (zEqS zV)) (eSkip (eZB (zEqS zV)) (eTake (eZB (zIn (qs := ["read", "write"]) zV (fun _ => rfl))) (eRet (eMeth (eZ zV) R.run rfl (eCons (eZ zV) (eCons (eZ zV) eNil)) e))))
theorem impl_say {a : Deed} (ap : Apart L) (I : Impl L S0 c (den rs a env) (enc a) r M) (hM : 4 ≤ M) : Impl L S0 c (den rs (.say a) env) (enc (.say a)) r (M + 2) := by
  intro n hn S st F R hc hf
  obtain ⟨n, rfl⟩ : ∃ k, n = k + 5 := ⟨n - 5, by omega⟩
  unfold den at hf ⊢
  have hfa : Fits (den rs a env st).2 := Fits.of (grow_say _ _) hf
  obtain ⟨S', e, f, R'⟩ := eW (ε := [some (D.ref L.run), some (enc (.say a)), some (.ref r), some (.str "say"), none, none]) (a := dBin oGet (dVar 1) (dC (.int 1))) (bb := dVar 2) (n := n + 4) I (by omega) F R hc hfa rfl (zG zV) zV
  obtain ⟨S2, e2, f2, R2⟩ := touched_say (n + 1) (v := (den rs a env st).1) ap R' hf
  have e3 := touch_sem (n + 1) R' e2
  refine ⟨S2, ?_, f.trans f2, R2⟩
  rw [cs_m_Run_worth]
  refine run_rt ?_
  unfold b_m_Run_worth
  refine eLet (eZ (zG zV)) ?_
  exact eSkip (eZB (zEqS zV)) (eSkip (eZB (zEqS zV)) (eSkip (eZB (zIn (qs := ["read", "write"]) zV (fun _ => rfl))) (eSkip (eZB (zEqS zV)) (eTake (eZB (zEqS zV)) (eRet (eMeth (eZ zV) R.run rfl (eCons (eTup (eCons (eZ zC) (eCons e eNil))) eNil) e3))))))
end
end DL

set_option Elab.async false
set_option linter.all false
set_option maxRecDepth 100000
set_option maxHeartbeats 1000000
namespace DL
open PySem L2
section
variable {L : Pl} {S S0 : Sto} {st : Stt} {ε : Env} {c r m n b M : Nat} {env : Ev} {K : List Str} {x : Str} {t : Thk} {p : D} {rs : List RS}
theorem worth_put {wd : Str} {ds : List D} {v : Int} {S' : Sto} (R : Rep L S st) (hw : wd ∈ (["if", "then", "add", "less", "loop"] : List Str)) (h : csem (n + 1) .m_Run_put_together [.ref L.run, .tup (.str wd :: ds), .ref r] S = .ok (.int v) S') :
    csem (n + 2) .m_Run_worth [.ref L.run, .tup (.str wd :: ds), .ref r] S = .ok (.int v) S' := by
  rw [cs_m_Run_worth]
  refine run_rt ?_
  unfold b_m_Run_worth
  refine eLet (eZ (zG zV atI_0)) ?_
  simp only [List.mem_cons, List.not_mem_nil, or_false] at hw
  rcases hw with rfl | rfl | rfl | rfl | rfl
  all_goals exact eSkip (eZB (zEqS zV)) (eSkip (eZB (zEqS zV)) (eSkip (eZB (zIn (qs := ["read", "write"]) zV (fun _ => rfl))) (eSkip (eZB (zEqS zV)) (eSkip (eZB (zEqS zV)) (eSkip (eZB (zEqS zV)) (eSkip (eZB (zIn (qs := ["call", "let", "own"]) zV (fun _ => rfl))) (eRet (eMeth (eZ zV) R.run rfl (eCons (eZ zV) (eCons (eZ zV) eNil)) h))))))))
theorem impl_iff {a b c' : Deed} (ge : GrowE env) (gr : GrowR rs) (Ia : Impl L S0 c (den rs a env) (enc a) r M) (Ib : Impl L S0 c (den rs b env) (enc b) r M) (Ic : Impl L S0 c (den rs c' env) (enc c') r M) (hM : 1 ≤ M) : Impl L S0 c (den rs (.iff a b c') env) (enc (.iff a b c')) r (M + 2) := by
  intro n hn S st F R hc hf
  obtain ⟨n, rfl⟩ : ∃ k, n = k + 2 := ⟨n - 2, by omega⟩
  have ga := den_grow gr a ge st
  obtain ⟨n, rfl⟩ : ∃ k, n = k + 1 := ⟨n - 1, by omega⟩
  unfold den at hf ⊢
  have hfa : Fits (den rs a env st).2 := by
    split at hf
    · exact Fits.of (den_grow gr b ge _) hf
    · exact Fits.of (den_grow gr c' ge _) hf
  obtain ⟨S', e, f, R'⟩ := eW (ε := [some (D.ref L.run), some (enc (.iff a b c')), some (.ref r), some (.str "if"), none, none, none]) (a := dBin oGet (dVar 1) (dC (.int 1))) (bb := dVar 2) (n := n + 1) Ia (by omega) F R hc hfa rfl (zG zV) zV
  have hc' : c ≤ (den rs a env st).2.cells.length := Nat.le_trans hc ga.c
  by_cases hv : (den rs a env st).1 ≠ 0
  · rw [if_pos hv] at hf ⊢
    obtain ⟨S2, e2, f2, R2⟩ := Ib (n + 1) (by omega) S' _ (F.trans f) R' hc' hf
    refine ⟨S2, worth_put R (by simp) ?_, f.trans f2, R2⟩
    rw [cs_m_Run_put_together]
    refine run_rt ?_
    unfold b_m_Run_put_together
    refine eLet (eZ (zG zV)) ?_
    refine eLet e ?_
    refine eTake (eZB (zEqS zV)) (eRet (eMeth (eZ zV) R'.run rfl (eCons (d := enc b) (eCond (eTest (eBin (eZ zV) (eZ zC) x_neI)) ?_) (eCons (eZ zV) eNil)) e2))
    rw [if_pos (by simpa using hv)]
    exact eZ (zG zV)
  · rw [if_neg hv] at hf ⊢
    obtain ⟨S2, e2, f2, R2⟩ := Ic (n + 1) (by omega) S' _ (F.trans f) R' hc' hf
    refine ⟨S2, worth_put R (by simp) ?_, f.trans f2, R2⟩
    rw [cs_m_Run_put_together]
    refine run_rt ?_
    unfold b_m_Run_put_together
    refine eLet (eZ (zG zV)) ?_
    refine eLet e ?_
    refine eTake (eZB (zEqS zV)) (eRet (eMeth (eZ zV) R'.run rfl (eCons (d := enc c') (eCond (eTest (eBin (eZ zV) (eZ zC) x_neI)) ?_) (eCons (eZ zV) eNil)) e2))
    rw [if_neg (by simpa using hv)]
    exact eZ (zG zV)
theorem turns {a : Den} {m jv : Nat} (ge : GrowE env) (gr : GrowR rs) {bd : Deed} (Ib : Impl L S0 c (den rs bd env) (enc bd) r M) (hn : M ≤ n) (h0 : ε[0]? = some (some (.ref L.run))) (hj : jv ≠ 0) (ha : ∀ v, ZE a (ε.set jv v) (enc bd)) {bb : Den} (hb : ∀ v, ZE bb (ε.set jv v) (.ref r)) :
    ∀ (k i : Nat) (v : Option D) (S : Sto) (st : Stt), i + k = m → Frm L S0 S → Rep L S st → c ≤ st.cells.length → Fits (iterT (den rs bd env) k st) →
      ∃ S' v', forI (fun _ => some (nums 0 m)) (gN jv) (sExpr (dMeth "Run" "worth" 3 (csem n .m_Run_worth) (dVar 0) (dCons a (dCons bb dNil)))) (k + 1) i (ε.set jv v) S = .ok (.nx (ε.set jv v')) S' ∧ Frm L S S' ∧ Rep L S' (iterT (den rs bd env) k st)
  | 0, i, v, S, st, hi, F, R, hc, hf => by
    refine ⟨S, v, ?_, Frm.refl, R⟩
    unfold forI
    simp only [nums_get, if_neg (show ¬ i < m by omega)]
  | k + 1, i, v, S, st, hi, F, R, hc, hf => by
    unfold iterT at hf ⊢
    have g := den_grow gr bd ge st
    have hfa : Fits (den rs bd env st).2 := Fits.of (grow_iter (den_grow gr bd ge) k _) hf
    obtain ⟨S1, e1, f1, R1⟩ := eW (ε := ε.set jv (some (.int (i : Int)))) (a := a) (bb := bb) Ib hn F R hc hfa (by rw [List.getElem?_set_ne hj]; exact h0) (ha _) (hb _)
    obtain ⟨S2, v2, e2, f2, R2⟩ := turns (m := m) ge gr Ib hn h0 hj ha hb k (i + 1) (some (.int (i : Int))) S1 _ (by omega) (F.trans f1) R1 (Nat.le_trans hc g.c) hf
    refine ⟨S2, v2, ?_, f1.trans f2, R2⟩
    unfold forI
    simp only [nums_get, if_pos (show i < m by omega), x_gN, List.set_set, eExpr e1]
    exact e2
theorem impl_two {w : Two} {a b : Deed} (ge : GrowE env) (gr : GrowR rs) (Ia : Impl L S0 c (den rs a env) (enc a) r M) (Ib : Impl L S0 c (den rs b env) (enc b) r M) (hM : 1 ≤ M) : Impl L S0 c (den rs (.two w a b) env) (enc (.two w a b)) r (M + 2) := by
  intro n hn S st F R hc hf
  obtain ⟨n, rfl⟩ : ∃ k, n = k + 3 := ⟨n - 3, by omega⟩
  have ga := den_grow gr a ge st
  have gb := den_grow gr b ge (den rs a env st).2
  have hc' : c ≤ (den rs a env st).2.cells.length := Nat.le_trans hc ga.c
  have two_steps : Fits (den rs b env (den rs a env st).2).2 → ∃ S' S2, (∀ {wd : Str}, dMeth "Run" "worth" 3 (csem (n + 1) .m_Run_worth) (dVar 0) (dCons (dBin oGet (dVar 1) (dC (.int 1))) (dCons (dVar 2) dNil)) [some (D.ref L.run), some (.tup [.str wd, enc a, enc b]), some (.ref r), some (.str wd), none, none, none] S = .ok (.int (den rs a env st).1) S') ∧
      (∀ {wd : Str}, dMeth "Run" "worth" 3 (csem (n + 1) .m_Run_worth) (dVar 0) (dCons (dBin oGet (dVar 1) (dC (.int 2))) (dCons (dVar 2) dNil)) [some (D.ref L.run), some (.tup [.str wd, enc a, enc b]), some (.ref r), some (.str wd), some (.int (den rs a env st).1), none, none] S' = .ok (.int (den rs b env (den rs a env st).2).1) S2) ∧ Frm L S S2 ∧ Rep L S2 (den rs b env (den rs a env st).2).2 := fun hfb => by
    obtain ⟨S', e, f, R'⟩ := Ia (n + 1) (by omega) S st F R hc (Fits.of gb hfb)
    obtain ⟨S2, e2, f2, R2⟩ := Ib (n + 1) (by omega) S' _ (F.trans f) R' hc' hfb
    exact ⟨S', S2, eMeth (eZ zV) R.run rfl (eCons (eZ (zG zV)) (eCons (eZ zV) eNil)) e, eMeth (eZ zV) R'.run rfl (eCons (eZ (zG zV)) (eCons (eZ zV) eNil)) e2, f.trans f2, R2⟩
  cases w with
  | thn =>
    unfold den at hf ⊢
    obtain ⟨S', S2, e, e2, f2, R2⟩ := two_steps hf
    refine ⟨S2, worth_put R (by simp [Two.w]) ?_, f2, R2⟩
    rw [cs_m_Run_put_together]
    refine run_rt ?_
    unfold b_m_Run_put_together
    refine eLet (eZ (zG zV)) ?_
    refine eLet e ?_
    refine eSkip (eZB (zEqS zV (by decide +kernel))) (eSkip (eZB (zEqS zV (by decide +kernel))) ?_)
    refine eLet e2 ?_
    exact eTake (eZB (zEqS zV (by decide +kernel))) (eRet (eZ zV))
  | add =>
    unfold den at hf ⊢
    obtain ⟨S', S2, e, e2, f2, R2⟩ := two_steps hf
    refine ⟨S2, worth_put R (by simp [Two.w]) ?_, f2, R2⟩
    rw [cs_m_Run_put_together]
    refine run_rt ?_
    unfold b_m_Run_put_together
    refine eLet (eZ (zG zV)) ?_
    refine eLet e ?_
    refine eSkip (eZB (zEqS zV (by decide +kernel))) (eSkip (eZB (zEqS zV (by decide +kernel))) ?_)
    refine eLet e2 ?_
    refine eSkip (eZB (zEqS zV (by decide +kernel))) (eRet (eCond (eZB (zEqS (t := true) zV (by decide +kernel))) ?_))
    rw [if_pos rfl]
    refine eBin (eBin (eZ zV) (eZ zV) x_addI) (eZ zC) ?_
    rw [x_modI, if_pos (by decide)]
  | les =>
    unfold den at hf ⊢
    obtain ⟨S', S2, e, e2, f2, R2⟩ := two_steps hf
    refine ⟨S2, worth_put R (by simp [Two.w]) ?_, f2, R2⟩
    rw [cs_m_Run_put_together]
    refine run_rt ?_
    unfold b_m_Run_put_together
    refine eLet (eZ (zG zV)) ?_
    refine eLet e ?_
    refine eSkip (eZB (zEqS zV (by decide +kernel))) (eSkip (eZB (zEqS zV (by decide +kernel))) ?_)
    refine eLet e2 ?_
    refine eSkip (eZB (zEqS zV (by decide +kernel))) (eRet (eCond (eZB (zEqS (t := false) zV (by decide +kernel))) ?_))
    rw [if_neg Bool.false_ne_true]
    refine eFn (eCons (eBin (eZ zV) (eZ zV) x_ltI) eNil) ?_
    unfold fInt
    simp only [decide_eq_true_eq]
  | lop =>
    unfold den at hf ⊢
    have hfa : Fits (den rs a env st).2 := Fits.of (grow_iter (den_grow gr b ge) _ _) hf
    obtain ⟨S', e, f, R'⟩ := Ia (n + 1) (by omega) S st F R hc hfa
    have h0 := Int.emod_nonneg (den rs a env st).1 (show (4 : Int) ≠ 0 by decide)
    have h1 := Int.emod_lt_of_pos (den rs a env st).1 (show (0 : Int) < 4 by decide)
    obtain ⟨S2, v2, e2, f2, R2⟩ := turns (n := n + 1) (ε := [some (D.ref L.run), some (enc (.two .lop a b)), some (.ref r), some (.str "loop"), some (.int (den rs a env st).1), none, none]) (m := ((den rs a env st).1 % 4).toNat) (jv := 5) (a := dBin oGet (dVar 1) (dC (.int 2))) (bb := dVar 2) ge gr Ib (by omega) rfl (by decide) (fun v => zG zV) (fun v => zV) _ 0 none S' _ (by omega) (F.trans f) R' hc' hf
    refine ⟨S2, worth_put R (by simp [Two.w]) ?_, f.trans f2, R2⟩
    rw [cs_m_Run_put_together]
    refine run_rt ?_
    unfold b_m_Run_put_together
    refine eLet (eZ (zG zV)) ?_
    refine eLet (eMeth (eZ zV) R.run rfl (eCons (eZ (zG zV)) (eCons (eZ zV) eNil)) e) ?_
    have it := iRange1_of (a := dBin oMod (dVar 4) (dC (.int 4))) (ε := [some (D.ref L.run), some (enc (.two .lop a b)), some (.ref r), some (.str "loop"), some (.int (den rs a env st).1), none, none]) (S := S') (S' := S') (j := (den rs a env st).1 % 4) (okR_of h0 (by omega)) (eBin (eZ zV) (eZ zC) (by rw [x_modI, if_pos (by decide)]))
    refine eSkip (eZB (zEqS zV (by decide +kernel))) (eTake (eZB (zEqS zV (by decide +kernel))) (eSeq (sFor_of it e2) (eRet (eZ zC))))
end
end DL

set_option Elab.async false
set_option linter.all false
set_option maxRecDepth 100000
set_option maxHeartbeats 1000000
namespace DL
open PySem L2
section
variable {L : Pl} {S S0 : Sto} {st : Stt} {ε : Env} {c r m n b M : Nat} {env : Ev} {K : List Str} {x : Str} {t : Thk} {p : D} {rs : List RS}
theorem worth_with {wd : Str} {ds : List D} {v : Int} {S' : Sto} (R : Rep L S st) (hw : wd ∈ (["call", "let", "own"] : List Str)) (h : csem (n + 1) .m_Run_with_names [.ref L.run, .tup (.str wd :: ds), .ref r] S = .ok (.int v) S') :
    csem (n + 2) .m_Run_worth [.ref L.run, .tup (.str wd :: ds), .ref r] S = .ok (.int v) S' := by
  rw [cs_m_Run_worth]
  refine run_rt ?_
  unfold b_m_Run_worth
  refine eLet (eZ (zG zV atI_0)) ?_
  simp only [List.mem_cons, List.not_mem_nil, or_false] at hw
  rcases hw with rfl | rfl | rfl
  all_goals exact eSkip (eZB (zEqS zV)) (eSkip (eZB (zEqS zV)) (eSkip (eZB (zIn (qs := ["read", "write"]) zV (fun _ => rfl))) (eSkip (eZB (zEqS zV)) (eSkip (eZB (zEqS zV)) (eSkip (eZB (zEqS zV)) (eTake (eZB (zIn (qs := ["call", "let", "own"]) zV (fun _ => rfl))) (eRet (eMeth (eZ zV) R.run rfl (eCons (eZ zV) (eCons (eZ zV) eNil)) h))))))))
theorem fDict_copy {kvs : List (Key × D)} (h : S[r]? = some (.dct kvs)) : fDict [.ref r] S = .ok (.ref S.length) (S ++ [.dct kvs]) := by
  unfold fDict
  simp only [dctAt, h]
theorem put_last {E : Sto} {o o' : O} : (S ++ [o]).set S.length o' = S ++ [o'] := by simp
theorem EvOk.mono {v : EV} {o : Option D} {m' c' : Nat} {S' : Sto} (h : EvOk L S c m x v o) (f : Frm L S S') (hc : c ≤ c') (hm : m ≤ m') : EvOk L S' c' m' x v o := by
  cases v with
  | int v => exact h
  | cell i => exact ⟨h.1, h.2.1, Nat.lt_of_lt_of_le h.2.2 hc⟩
  | th t =>
    obtain ⟨⟨p, r, e, i⟩, k⟩ := h
    exact ⟨⟨p, r, e, i.up f hc hm⟩, k⟩
theorem EnvOk.put (E : EnvOk L S c r m b env K) {S' : Sto} (f : Frm L S S') (R : Rep L S' st) {kvs : List (Key × D)} (hk : S[r]? = some (.dct kvs)) {c' : Nat} (hc : c ≤ c') {kvs' : List (Key × D)} (hl : kvs'.length ≤ b + 1) (hv : ∀ y, valD kvs' (.inr y) = if y = x then some p else valD kvs (.inr y)) {v : EV} (hx : EvOk L (S' ++ [.dct kvs']) c' m x v (some p)) :
    EnvOk L (S' ++ [.dct kvs']) c' S'.length m (b + 1) (putE x v env) (x :: K) := by
  obtain ⟨⟨kvs0, e, hlen, q⟩, hr, hK⟩ := E
  rw [hk] at e
  cases e
  refine ⟨⟨kvs', by simp, hl, fun y => ?_⟩, fun h => Nat.lt_irrefl _ (R.lt _ h), fun y hy => ?_⟩
  · have := q y
    rw [hv y]
    unfold putE
    by_cases e : y = x
    · subst e
      simp only [if_true]
      exact hx
    · simp only [e, if_false]
      cases h : env y with
      | none => rw [h] at this; exact this
      | some w => rw [h] at this; exact this.mono (f.trans Frm.app) hc (Nat.le_refl _)
  · unfold putE
    rcases List.mem_cons.mp hy with e | e
    · rw [if_pos e]; simp
    · split
      · simp
      · exact hK y e
theorem big2 {n b : Nat} (h : n ≤ b) (hb : b ≤ 1000) : n < big := Nat.lt_of_le_of_lt (Nat.le_trans h hb) (by decide)
theorem impl_lt {a bd : Deed} (E : EnvOk L S0 c r m b env K) (hb : b < 1000) (ge : GrowE env) (gr : GrowR rs) (k1 : kd x = 1) (Ia : Impl L S0 c (den rs a env) (enc a) r M)
    (Ib : ∀ (v : Int) S1 r1 c1, EnvOk L S1 c1 r1 m (b + 1) (putE x (.int v) env) (x :: K) → Impl L S1 c1 (den rs bd (putE x (.int v) env)) (enc bd) r1 M) (hM : 1 ≤ M) : Impl L S0 c (den rs (.lt x a bd) env) (enc (.lt x a bd)) r (M + 2) := by
  intro n hn S st F R hc hf
  obtain ⟨n, rfl⟩ : ∃ k, n = k + 3 := ⟨n - 3, by omega⟩
  have ga := den_grow gr a ge st
  unfold den at hf ⊢
  have hfa : Fits (den rs a env st).2 := Fits.of (den_grow gr bd (ge.put fun t e => by cases e) _) hf
  obtain ⟨S', e, f, R'⟩ := Ia (n + 1) (by omega) S st F R hc hfa
  have E' := E.up (F.trans f) (Nat.le_refl _)
  obtain ⟨kvs, ek, el, _⟩ := E'.d
  have E2 := E'.put (x := x) (p := .int (den rs a env st).1) Frm.refl R' ek (Nat.le_refl _) (kvs' := putD kvs (.inr x) (.int (den rs a env st).1)) (Nat.le_trans (putD_len _ _ _) (by omega)) (fun y => by
    rw [valD_put]
    simp only [Sum.inr.injEq]) (v := .int (den rs a env st).1) ⟨rfl, k1⟩
  obtain ⟨S2, e2, f2, R2⟩ := Ib _ _ _ _ E2 (n + 1) (by omega) _ _ Frm.refl (R'.app _) (Nat.le_trans hc ga.c) hf
  refine ⟨S2, worth_with R (by simp) ?_, f.trans (Frm.app.trans f2), R2⟩
  rw [cs_m_Run_with_names]
  refine run_rt ?_
  unfold b_m_Run_with_names
  refine eSkip (eZB (zEqS (zG zV))) ?_
  refine eLet (eMeth (eZ zV) R.run rfl (eCons (eZ (zG zV)) (eCons (eZ zV) eNil)) e) ?_
  refine eLet (eFn (eCons (eZ zV) eNil) (fDict_copy ek)) ?_
  have pt := ePutD (ε := [some (D.ref L.run), some (enc (.lt x a bd)), some (.ref r), none, none, none, some (.ref S'.length), some (.int (den rs a env st).1), none, none]) (a := dVar 7) (b := dVar 6) (kk := dBin oGet (dVar 1) (dC (.int 1))) (S := S' ++ [O.dct kvs]) (eZ zV) (eZ zV) (eZ (zG zV)) getLast_app rfl (big2 el (by omega))
  rw [put_last (E := S)] at pt
  refine eSeq pt ?_
  refine eSkip (eZB (zEqS (zG zV))) (eRet (eMeth (eZ zV) (R'.app _).run rfl (eCons (eZ (zG zV)) (eCons (eZ zV) eNil)) e2))
theorem impl_own {a bd : Deed} (ap : Apart L) (E : EnvOk L S0 c r m b env K) (hb : b < 1000) (ge : GrowE env) (gr : GrowR rs) (k2 : kd x = 2) (Ia : Impl L S0 c (den rs a env) (enc a) r M)
    (Ib : ∀ (i : Nat) S1 r1 c1, EnvOk L S1 c1 r1 m (b + 1) (putE x (.cell i) env) (x :: K) → Impl L S1 c1 (den rs bd (putE x (.cell i) env)) (enc bd) r1 M) (hM : 1 ≤ M) : Impl L S0 c (den rs (.own x a bd) env) (enc (.own x a bd)) r (M + 2) := by
  intro n hn S st F R hc hf
  obtain ⟨n, rfl⟩ : ∃ k, n = k + 3 := ⟨n - 3, by omega⟩
  have ga := den_grow gr a ge st
  unfold den at hf ⊢
  have gp : Lst (den rs a env st).2 ((den rs a env st).2.push (den rs a env st).1) := ⟨Nat.le_refl _, Nat.le_refl _, by simp [Stt.push]⟩
  have hfp : Fits ((den rs a env st).2.push (den rs a env st).1) := Fits.of (den_grow gr bd (ge.put fun t e => by cases e) _) hf
  have hfa : Fits (den rs a env st).2 := Fits.of gp hfp
  obtain ⟨S', e, f, R'⟩ := Ia (n + 1) (by omega) S st F R hc hfa
  have E' := E.up (F.trans f) (Nat.le_refl _)
  obtain ⟨kvs, ek, el, _⟩ := E'.d
  -- the store with the cell, then the dict
  let kvs1 := putD kvs (.inr x) (.int (den rs a env st).1)
  let kvs2 := putD kvs1 (.inr x) (.int ((den rs a env st).2.cells.length : Int))
  let S1 := S'.set L.cells (.lst (((den rs a env st).2.cells ++ [(den rs a env st).1]).map .int))
  have R1 : Rep L S1 ((den rs a env st).2.push (den rs a env st).1) := R'.setCells ap.nes _
  have f1 : Frm L S' S1 := Frm.set (by simp [Pl.mut])
  have hlen : S1.length = S'.length := by simp [S1]
  have ek1 : S1[r]? = some (.dct kvs) := f1.keep _ _ E'.r ek
  have E2 := (E'.up f1 (Nat.le_refl _)).put (x := x) (p := .int ((den rs a env st).2.cells.length : Int)) Frm.refl R1 ek1 (c' := (den rs a env st).2.cells.length + 1) (by have := ga.c; omega) (kvs' := kvs2) (by
    have h1 : kvs1.length ≤ kvs.length + 1 := putD_len (.inr x) (.int (den rs a env st).1) kvs
    have h2 : kvs2.length = kvs1.length := by
      have : (kvs1.any fun kv => decide (kv.1 = .inr x)) = true := by
        have hv : valD kvs1 (.inr x) = some (.int (den rs a env st).1) := by rw [valD_put, if_pos rfl]
        unfold valD at hv
        cases q : kvs1.find? (fun kv => decide (kv.1 = .inr x)) with
        | none => rw [q] at hv; cases hv
        | some z =>
          have q2 := List.find?_some q
          exact List.any_eq_true.mpr ⟨z, List.mem_of_find?_eq_some q, by simpa using q2⟩
      show (putD kvs1 _ _).length = _
      unfold putD
      rw [if_pos this, List.length_map]
    omega) (fun y => by
    show valD (putD (putD kvs _ _) _ _) _ = _
    rw [valD_put, valD_put]
    simp only [Sum.inr.injEq]
    split <;> rfl) (v := .cell (den rs a env st).2.cells.length) ⟨rfl, k2, Nat.lt_succ_self _⟩
  obtain ⟨S2, e2, f2, R2⟩ := Ib _ _ _ _ E2 (n + 1) (by omega) _ _ Frm.refl (R1.app _) (by simp [Stt.push]) hf
  rw [hlen] at e2
  refine ⟨S2, worth_with R (by simp) ?_, f.trans (f1.trans (Frm.app.trans f2)), R2⟩
  rw [cs_m_Run_with_names]
  refine run_rt ?_
  unfold b_m_Run_with_names
  refine eSkip (eZB (zEqS (zG zV))) ?_
  refine eLet (eMeth (eZ zV) R.run rfl (eCons (eZ (zG zV)) (eCons (eZ zV) eNil)) e) ?_
  refine eLet (eFn (eCons (eZ zV) eNil) (fDict_copy ek)) ?_
  have pt := ePutD (ε := [some (D.ref L.run), some (enc (.own x a bd)), some (.ref r), none, none, none, some (.ref S'.length), some (.int (den rs a env st).1), none, none]) (a := dVar 7) (b := dVar 6) (kk := dBin oGet (dVar 1) (dC (.int 1))) (S := S' ++ [O.dct kvs]) (eZ zV) (eZ zV) (eZ (zG zV)) getLast_app rfl (big2 el (by omega))
  rw [put_last (E := S)] at pt
  refine eSeq pt ?_
  -- the cell
  have Ra := R'.app [O.dct kvs1]
  have hcl : L.cells < S'.length := R'.lt _ (by simp [Pl.mut])
  have ap1 := eApp (ε := [some (D.ref L.run), some (enc (.own x a bd)), some (.ref r), none, none, none, some (.ref S'.length), some (.int (den rs a env st).1), none, none]) (a := dFld "cells" (dVar 0)) (b := dVar 7) (S := S' ++ [O.dct kvs1]) (eFld (eZ zV) Ra.run rfl) Ra.cells (eZ zV) (big5 (by rw [List.length_map]; exact hfa.c))
  have es : (S' ++ [O.dct kvs1]).set L.cells (.lst ((den rs a env st).2.cells.map .int ++ [.int (den rs a env st).1])) = S1 ++ [O.dct kvs1] := by
    rw [List.set_append_left _ _ hcl]
    show _ = S'.set L.cells (.lst (((den rs a env st).2.cells ++ [(den rs a env st).1]).map .int)) ++ _
    rw [List.map_append]
    rfl
  rw [es] at ap1
  have R1a := R1.app [O.dct kvs1]
  have el2 : fLen [.ref L.cells] (S1 ++ [O.dct kvs1]) = .ok (.int (((den rs a env st).2.cells.length : Int) + 1)) (S1 ++ [O.dct kvs1]) := by
    unfold fLen
    simp only [items, R1a.cells]
    simp [Stt.push]
  have pt2 := ePutD (ε := [some (D.ref L.run), some (enc (.own x a bd)), some (.ref r), none, none, none, some (.ref S'.length), some (.int (den rs a env st).1), none, none]) (a := dBin oSub (dFn fLen (dCons (dFld "cells" (dVar 0)) dNil)) (dC (.int 1))) (b := dVar 6) (kk := dBin oGet (dVar 1) (dC (.int 1))) (S := S1 ++ [O.dct kvs1]) (S1 := S1 ++ [O.dct kvs1]) (x := .int ((den rs a env st).2.cells.length : Int)) (eBin (eFn (eCons (eFld (eZ zV) R1a.run rfl) eNil) el2) (eZ zC) (by rw [x_subI]; congr 2; omega)) (eZ zV) (eZ (zG zV)) (by rw [← hlen]; exact getLast_app) rfl (big2 (Nat.le_trans (putD_len _ _ _) (by omega)) (Nat.le_refl 1000))
  have es2 : (S1 ++ [O.dct kvs1]).set S'.length (.dct kvs2) = S1 ++ [O.dct kvs2] := by rw [← hlen]; exact put_last (E := S)
  have pt3 : sPut (dVar 6) (dBin oGet (dVar 1) (dC (.int 1))) (dBin oSub (dFn fLen (dCons (dFld "cells" (dVar 0)) dNil)) (dC (.int 1))) [some (D.ref L.run), some (enc (.own x a bd)), some (.ref r), none, none, none, some (.ref S'.length), some (.int (den rs a env st).1), none, none] (S1 ++ [O.dct kvs1]) = .ok (.nx [some (D.ref L.run), some (enc (.own x a bd)), some (.ref r), none, none, none, some (.ref S'.length), some (.int (den rs a env st).1), none, none]) (S1 ++ [O.dct kvs2]) := by
    rw [← es2]
    exact pt2
  refine eSeq (eIfT (eZB (zEqS (zG zV))) (eSeq (eExpr ap1) pt3)) (eRet (eMeth (eZ zV) (R1.app _).run rfl (eCons (eZ (zG zV)) (eCons (eZ zV) eNil)) e2))
end
end DL

set_option Elab.async false
set_option linter.all false
set_option maxRecDepth 100000
set_option maxHeartbeats 1000000
namespace DL
open PySem L2
section
variable {L : Pl} {S S0 : Sto} {st : Stt} {ε : Env} {c r m n b M : Nat} {env : Ev} {K : List Str} {x : Str} {t : Thk} {p : D} {rs : List RS}
theorem pairs_ix : ∀ {xs ys : List D} {i : Nat} {a b : D}, xs[i]? = some a → ys[i]? = some b → (pairs xs ys)[i]? = some (.tup [a, b])
  | [], _, _, _, _, h, _ => by simp at h
  | x :: xs, [], _, _, _, _, h => by simp at h
  | x :: xs, y :: ys, 0, a, b, h1, h2 => by
    simp at h1 h2
    subst h1; subst h2
    rfl
  | x :: xs, y :: ys, i + 1, a, b, h1, h2 => by
    simp at h1 h2
    show (pairs xs ys)[i]? = _
    exact pairs_ix h1 h2
theorem unt_enc (x : Str) (p : Deed) : unt (.tup [.str x, enc p]) = true := by cases p <;> rfl
theorem pairs_unt : ∀ (xs : List Str) (ps : List Deed), (pairs (xs.map D.str) (encs ps)).all unt = true
  | [], _ => by simp [pairs]
  | _ :: _, [] => by simp [pairs, encs]
  | x :: xs, p :: ps => by
    show (unt (.tup [.str x, enc p]) && (pairs (xs.map D.str) (encs ps)).all unt) = true
    rw [unt_enc, pairs_unt xs ps]; rfl
theorem pairs_ln : ∀ {xs ys : List D}, xs.length = ys.length → (pairs xs ys).length = xs.length
  | [], [], _ => rfl
  | x :: xs, y :: ys, h => by
    show (pairs xs ys).length + 1 = xs.length + 1
    rw [pairs_ln (by simpa using h)]
  | [], y :: ys, h => by simp at h
  | x :: xs, [], h => by simp at h
theorem parts_loop {names : List Str} {ps : List Deed} (hlen : names.length = ps.length) (h1000 : ps.length ≤ 1000) (ge : GrowE env) (gr : GrowR rs) (hI : ∀ q ∈ ps, Impl L S0 c (den rs q env) (enc q) r M) (hn : M ≤ n) {e0 e1 e3 e4 e5 e6 e7 : Option D} :
    ∀ (k i : Nat) (acc : List D) (S : Sto) (st : Stt), i + k = ps.length → acc.length ≤ i → Frm L S0 S → Rep L S st → c ≤ st.cells.length → Fits (denL rs (ps.drop i) env st).2 →
      ∃ S', lcI (fun _ => some (pairs (names.map .str) (encs ps))) (gT 2 (gsCons (gN 8) (gsCons (gN 9) gsNil))) bYes (dTup (dCons (dVar 8) (dCons (dMeth "Run" "worth" 3 (csem n .m_Run_worth) (dVar 0) (dCons (dVar 9) (dCons (dVar 2) dNil))) dNil))) [8, 9] [some (.ref L.run), e1, some (.ref r), e3, e4, e5, e6, e7, none, none] (k + 1) i acc S
        = .ok (acc ++ ((names.drop i).zip (denL rs (ps.drop i) env st).1).map fun q => .tup [.str q.1, .int q.2]) S' ∧ Frm L S S' ∧ Rep L S' (denL rs (ps.drop i) env st).2
  | 0, i, acc, S, st, hi, ha, F, R, hc, hf => by
    have e1 : ps.drop i = [] := List.drop_eq_nil_of_le (by omega)
    have e2 : (pairs (names.map D.str) (encs ps))[i]? = none := List.getElem?_eq_none (by rw [pairs_ln (by rw [encs_map]; simpa using hlen), List.length_map]; omega)
    rw [e1] at hf ⊢
    unfold denL at hf ⊢
    refine ⟨S, ?_, Frm.refl, R⟩
    unfold lcI
    simp only [e2]
    simp
  | k + 1, i, acc, S, st, hi, ha, F, R, hc, hf => by
    have hip : i < ps.length := by omega
    have hin : i < names.length := by omega
    have d1 : ps.drop i = ps[i] :: ps.drop (i + 1) := List.drop_eq_getElem_cons hip
    have d2 : names.drop i = names[i] :: names.drop (i + 1) := List.drop_eq_getElem_cons hin
    rw [d1] at hf ⊢
    unfold denL at hf ⊢
    have g := den_grow gr ps[i] ge st
    have hfa : Fits (den rs ps[i] env st).2 := Fits.of (denL_grow gr _ ge _) hf
    obtain ⟨S1, e1', f1, R1⟩ := eW (ε := [some (.ref L.run), e1, some (.ref r), e3, e4, e5, e6, e7, some (.str names[i]), some (enc ps[i])]) (a := dVar 9) (bb := dVar 2) (hI ps[i] (List.getElem_mem hip)) hn F R hc hfa rfl zV zV
    obtain ⟨S2, e2, f2, R2⟩ := parts_loop (e0 := e0) hlen h1000 ge gr hI hn (e1 := e1) (e3 := e3) (e4 := e4) (e5 := e5) (e6 := e6) (e7 := e7) k (i + 1) (acc ++ [.tup [.str names[i], .int (den rs ps[i] env st).1]]) S1 _ (by omega) (by simp; omega) (F.trans f1) R1 (Nat.le_trans hc g.c) hf
    refine ⟨S2, ?_, f1.trans f2, R2⟩
    have gp : (pairs (names.map D.str) (encs ps))[i]? = some (.tup [.str names[i], enc ps[i]]) := pairs_ix (by rw [List.getElem?_map, List.getElem?_eq_getElem hin]; rfl) (by rw [encs_map, List.getElem?_map, List.getElem?_eq_getElem hip]; rfl)
    have gg : gT 2 (gsCons (gN 8) (gsCons (gN 9) gsNil)) (.tup [.str names[i], enc ps[i]]) (wipeE [some (.ref L.run), e1, some (.ref r), e3, e4, e5, e6, e7, none, none] [8, 9]) S = some [some (.ref L.run), e1, some (.ref r), e3, e4, e5, e6, e7, some (.str names[i]), some (enc ps[i])] := rfl
    have et : dTup (dCons (dVar 8) (dCons (dMeth "Run" "worth" 3 (csem n .m_Run_worth) (dVar 0) (dCons (dVar 9) (dCons (dVar 2) dNil))) dNil)) [some (.ref L.run), e1, some (.ref r), e3, e4, e5, e6, e7, some (.str names[i]), some (enc ps[i])] S = .ok (.tup [.str names[i], .int (den rs ps[i] env st).1]) S1 := eTup (eCons (eZ zV) (eCons e1' eNil))
    unfold lcI
    simp only [gp, gg, bYes, noX, x_bind, if_true, et]
    rw [if_pos (show acc.length < big from Nat.lt_of_le_of_lt (show acc.length ≤ 1000 by omega) (by decide)), e2, d2, List.zip_cons_cons, List.map_cons]
    simp only [List.append_assoc, List.singleton_append]
theorem fall_pairs {α : Type} {f : α → Str} {g : α → D} : ∀ l : List α, fall pairD (l.map fun q => D.tup [.str (f q), g q]) = some (l.map fun q => (.inr (f q), g q))
  | [] => rfl
  | a :: l => fall_cons rfl (fall_pairs l)
theorem fDict_list {ds : List D} {kvs : List (Key × D)} (h : S[r]? = some (.lst ds)) (hk : fall pairD ds = some kvs) : fDict [.ref r] S = .ok (.ref S.length) (S ++ [.dct (mergeD [] kvs)]) := by
  unfold fDict
  simp only [dctAt, litems, h, hk]
theorem putD_new {κ : Type} [DecidableEq κ] {k : κ} {v : D} {kvs : List (κ × D)} (h : k ∉ kvs.map (·.1)) : putD kvs k v = kvs ++ [(k, v)] := by
  unfold putD
  rw [if_neg]
  intro q
  obtain ⟨x, hx, e⟩ := List.any_eq_true.mp q
  exact h (List.mem_map.mpr ⟨x, hx, by simpa using e⟩)
theorem mergeD_new : ∀ (more kvs : List (Key × D)), ((kvs ++ more).map (·.1)).Nodup → mergeD kvs more = kvs ++ more
  | [], kvs, _ => by simp [mergeD]
  | a :: more, kvs, h => by
    have e : mergeD kvs (a :: more) = mergeD (putD kvs a.1 a.2) more := rfl
    have h1 : a.1 ∉ kvs.map (·.1) := by
      rw [List.map_append, List.map_cons] at h
      have := (List.nodup_append.mp h).2.2
      intro q
      exact this _ q _ List.mem_cons_self rfl
    rw [e, putD_new h1, mergeD_new more (kvs ++ [(a.1, a.2)]) (by simpa using h)]
    simp
theorem valD_lookup {l : List (Str × D)} {y : Str} : valD (l.map fun q => ((.inr q.1 : Key), q.2)) (.inr y) = l.lookup y := by
  unfold valD
  induction l with
  | nil => rfl
  | cons a l ih =>
    obtain ⟨k, v⟩ := a
    by_cases h : k = y
    · subst h; simp
    · have h2 : ¬ y = k := fun q => h q.symm
      have h3 : (y == k) = false := by simpa using h2
      simp only [List.map_cons, List.find?_cons, Sum.inr.injEq, h, decide_false, List.lookup_cons, h3]
      exact ih
theorem zip_ok : ∀ {xs : List Str} {es : List EV} {ds : List D}, xs.length = es.length → es.length = ds.length → (∀ (i : Nat) (y : Str) (e : EV) (d : D), xs[i]? = some y → es[i]? = some e → ds[i]? = some d → EvOk L S c m y e (some d)) → ∀ y, match (xs.zip es).lookup y with
    | none => (xs.zip ds).lookup y = none
    | some v => EvOk L S c m y v ((xs.zip ds).lookup y)
  | [], _, _, _, _, _, y => by simp
  | x :: xs, [], _, h, _, _, _ => by simp at h
  | x :: xs, e :: es, [], _, h, _, _ => by simp at h
  | x :: xs, e :: es, d :: ds, h1, h2, h, y => by
    simp only [List.zip_cons_cons, List.lookup_cons]
    by_cases q : y = x
    · subst q
      simpa using h 0 y e d rfl rfl rfl
    · have q2 : (y == x) = false := by simpa using q
      rw [q2]
      exact zip_ok (by simpa using h1) (by simpa using h2) (fun i y e d a b c => h (i + 1) y e d (by simpa using a) (by simpa using b) (by simpa using c)) y
theorem zip_in {α : Type} : ∀ {xs : List Str} {es : List α} {y : Str}, xs.length = es.length → y ∈ xs → (xs.zip es).lookup y ≠ none
  | [], _, _, _, h => by simp at h
  | x :: xs, [], _, h, _ => by simp at h
  | x :: xs, e :: es, y, h1, h => by
    simp only [List.zip_cons_cons, List.lookup_cons]
    by_cases q : y = x
    · subst q; simp
    · have q2 : (y == x) = false := by simpa using q
      rw [q2]
      exact zip_in (by simpa using h1) (by rcases List.mem_cons.mp h with e | e; · exact absurd e q
                                           · exact e)
end
end DL

set_option Elab.async false
set_option linter.all false
set_option maxRecDepth 100000
set_option maxHeartbeats 1000000
namespace DL
open PySem L2
theorem nodup_map {α β : Type} {f : α → β} (hf : ∀ a b, f a = f b → a = b) {l : List α} (h : l.Nodup) : (l.map f).Nodup := List.Pairwise.map f (fun a b q e => q (hf a b e)) h
theorem dLc_of {it : IDen} {g : GDen} {c : DenB} {e : Den} {vs : List Nat} {ε : Env} {S S' S'' : Sto} {xs ds : List D} (hi : it ε S = .ok (fun _ => some xs) S') (hl : lcI (fun _ => some xs) g c e vs ε (xs.length + 1) 0 [] S' = .ok ds S'') : dLc it g c e vs ε S = .ok (.ref S''.length) (S'' ++ [.lst ds]) := by
  unfold dLc
  rw [hi, x_bind]
  simp only [hl, x_bind, lcEnd]
theorem eUpd {o a : Den} {ε : Env} {S S' : Sto} {n m : Nat} {kvs more : List (Key × D)} (ho : o ε S = .ok (.ref n) S) (hn : S[n]? = some (.dct kvs)) (ha : a ε S = .ok (.ref m) S') (hn' : S'[n]? = some (.dct kvs)) (hm : S'[m]? = some (.dct more)) (hne : n ≠ m) (hl : kvs.length + more.length ≤ 1000) : dUpd o a ε S = .ok .non (S'.set n (.dct (mergeD kvs more))) := by
  unfold dUpd
  rw [ho, x_bind]
  simp only [dctAt, hn, ha, x_bind, hn', hm]
  rw [if_pos ⟨hne, Nat.le_trans hl (by decide)⟩]
theorem pairs_h {r : Nat} : ∀ (xs : List Str) (hs : List Deed), (pairs (xs.map .str) (encs hs)).map (fun d => match d with | .tup [a, b] => D.tup [a, .tup [b, .ref r]] | d => d) = (xs.zip (hs.map fun d => D.tup [enc d, .ref r])).map fun q => D.tup [.str q.1, q.2]
  | [], _ => rfl
  | x :: xs, [] => rfl
  | x :: xs, h :: hs => by
    show _ :: (pairs (xs.map D.str) (encs hs)).map _ = _ :: _
    rw [pairs_h xs hs]
    rfl
def callE (r : Rule) (ws : List Int) (ts : List Thk) : Ev := envOf (r.ns.zip (ws.map .int) ++ r.hs.zip (ts.map .th))
def RulOk (L : Pl) (rules : List Rule) (rs : List RS) (j A : Nat) : Prop := ∀ i < j, ∃ r f, rules[i]? = some r ∧ rs[i]? = some f ∧ (r.ns ++ r.hs).Nodup ∧ (∀ x ∈ r.ns, kd x = 1) ∧ (∀ x ∈ r.hs, kd x = 3) ∧ r.ns.length ≤ 100 ∧ r.hs.length ≤ 100 ∧
  ∀ S c ρ m ws ts, ws.length = r.ns.length → ts.length = r.hs.length → EnvOk L S c ρ m (r.ns.length + r.hs.length) (callE r ws ts) (r.ns ++ r.hs) → (∀ t ∈ ts, Grow t) → Impl L S c (f ws ts) (enc r.b) ρ (m + A)
theorem denL_len (rs : List RS) : ∀ (ps : List Deed) (env : Ev) (st : Stt), (denL rs ps env st).1.length = ps.length
  | [], _, _ => rfl
  | p :: ps, env, st => by
    unfold denL
    simp [denL_len rs ps]
theorem denT_map (rs : List RS) : ∀ (ps : List Deed) (env : Ev), denT rs ps env = ps.map fun d => den rs d env
  | [], _ => rfl
  | p :: ps, env => by
    unfold denT
    rw [denT_map rs ps]
    rfl
section
variable {L : Pl} {S S0 : Sto} {st : Stt} {ε : Env} {c r m n b M A j : Nat} {env : Ev} {K : List Str} {x : Str} {t : Thk} {p : D} {rs : List RS} {rules : List Rule}
theorem impl_call {i : Nat} {ps hs : List Deed} (hL : L.rules = encRs rules) (RO : RulOk L rules rs j A) (hij : i < j) (hsz : (szs rules)[i]? = some (ps.length, hs.length)) (hr : r ∉ L.mut) (ge : GrowE env) (gr : GrowR rs) (Ip : ∀ q ∈ ps, Impl L S0 c (den rs q env) (enc q) r M) (Ih : ∀ q ∈ hs, Impl L S0 c (den rs q env) (enc q) r M) (hM : 1 ≤ M) :
    Impl L S0 c (den rs (.call i ps hs) env) (enc (.call i ps hs)) r (M + A + 2) := by
  intro n hn S st F R hc hf
  obtain ⟨n, rfl⟩ : ∃ k, n = k + 3 := ⟨n - 3, by omega⟩
  obtain ⟨ru, f, e1, e2, nd, k1, k3, l1, l2, body⟩ := RO i hij
  have hl1 : ru.ns.length = ps.length ∧ ru.hs.length = hs.length := by
    unfold szs at hsz
    rw [List.getElem?_map, e1] at hsz
    simpa using hsz
  obtain ⟨hp, hh⟩ := hl1
  have gp := denL_grow gr ps ge st
  have gf : Grow (f (denL rs ps env st).1 (denT rs hs env)) := gr f (List.mem_of_getElem? e2) _ _ (denT_grow gr hs ge)
  unfold den at hf ⊢
  simp only [e2, Option.getD_some] at hf ⊢
  have hfp : Fits (denL rs ps env st).2 := Fits.of (gf _) hf
  -- the worths
  obtain ⟨S1, lp, f1, R1⟩ := parts_loop (e0 := none) (n := n + 1) (names := ru.ns) (ps := ps) hp (by omega) ge gr Ip (by omega) (e1 := some (enc (.call i ps hs))) (e3 := some (tstr ru.ns)) (e4 := some (tstr ru.hs)) (e5 := some (enc ru.b)) (e6 := none) (e7 := none) ps.length 0 [] S st (by omega) (by simp) F R hc (by simpa using hfp)
  simp only [List.drop_zero, List.nil_append] at lp f1 R1
  let ws := (denL rs ps env st).1
  have hws : ws.length = ru.ns.length := by rw [hp]; exact denL_len rs ps env st
  have nd1 : ru.ns.Nodup := (List.nodup_append.mp nd).1
  let z1 : List (Str × D) := ru.ns.zip (ws.map .int)
  let z2 : List (Str × D) := ru.hs.zip (hs.map fun d => .tup [enc d, .ref r])
  have zk1 : z1.map (·.1) = ru.ns := List.map_fst_zip (by simp [hws])
  have zk2 : z2.map (·.1) = ru.hs := List.map_fst_zip (by simp [hh])
  let toL : List (Str × D) → List D := fun z => z.map fun q => .tup [.str q.1, q.2]
  let toK : List (Str × D) → List (Key × D) := fun z => z.map fun q => (.inr q.1, q.2)
  have hl1 : ((ru.ns.zip (denL rs ps env st).1).map fun q => D.tup [.str q.1, .int q.2]) = toL z1 := by
    show _ = (ru.ns.zip (ws.map D.int)).map _
    rw [List.zip_map_right, List.map_map]
    rfl
  rw [hl1] at lp
  have keysK : ∀ z : List (Str × D), (toK z).map (·.1) = (z.map (·.1)).map Sum.inr := fun z => by
    show (z.map fun q => ((.inr q.1 : Key), q.2)).map (·.1) = _
    rw [List.map_map, List.map_map]
    rfl
  have em1 : mergeD [] (toK z1) = toK z1 := by
    rw [mergeD_new _ [] (by rw [List.nil_append, keysK, zk1]; exact nodup_map (fun a b q => Sum.inr.inj q) nd1)]
    rfl
  have em2 : mergeD [] (toK z2) = toK z2 := by
    rw [mergeD_new _ [] (by rw [List.nil_append, keysK, zk2]; exact nodup_map (fun a b q => Sum.inr.inj q) (List.nodup_append.mp nd).2.1)]
    rfl
  have em3 : mergeD (toK z1) (toK z2) = toK (z1 ++ z2) := by
    have e : toK (z1 ++ z2) = toK z1 ++ toK z2 := List.map_append
    rw [mergeD_new _ _ (by rw [← e, keysK, List.map_append, zk1, zk2]; exact nodup_map (fun a b q => Sum.inr.inj q) nd), e]
  let S2 : Sto := S1 ++ [.lst (toL z1)]
  let ε1 : Env := [some (.ref L.run), some (enc (.call i ps hs)), some (.ref r), some (tstr ru.ns), some (tstr ru.hs), some (enc ru.b), none, none, none, none]
  let ε2 : Env := [some (.ref L.run), some (enc (.call i ps hs)), some (.ref r), some (tstr ru.ns), some (tstr ru.hs), some (enc ru.b), some (.ref S2.length), none, none, none]
  -- the first dict
  have it1 : iZipD (dVar 3) (dBin oGet (dVar 1) (dC (.int 2))) ε1 S = .ok (fun _ => some (pairs (ru.ns.map .str) (encs ps))) S := by
    unfold iZipD
    have a1 : dVar 3 ε1 S = .ok (tstr ru.ns) S := eZ zV
    have a2 : dBin oGet (dVar 1) (dC (.int 2)) ε1 S = .ok (.tup (encs ps)) S := eZ (zG zV)
    rw [a1, x_bind, a2, x_bind]
    exact if_pos (pairs_unt ru.ns ps)
  have pl : (pairs (ru.ns.map D.str) (encs ps)).length = ps.length := by rw [pairs_ln (by rw [encs_map]; simpa using hp), List.length_map, hp]
  have lc1 := dLc_of (vs := [8, 9]) it1 (by rw [pl]; exact lp)
  have fd1 : fDict [.ref S1.length] S2 = .ok (.ref S2.length) (S2 ++ [.dct (toK z1)]) := by
    have := fDict_list (getLast_app (A := S1) (x := O.lst (toL z1))) (fall_pairs (f := Prod.fst) (g := Prod.snd) z1)
    rw [this]
    show _ = DL.R.ok _ (S2 ++ [.dct (toK z1)])
    rw [← em1]
  -- the second
  have it2 : PurI [] (iZipD (dVar 4) (dBin oGet (dVar 1) (dC (.int 3)))) ε2 (pairs (ru.hs.map .str) (encs hs)) := piZip (xs := ru.hs.map .str) (ys := encs hs) pV (pO (d := enc (.call i ps hs)) (e := .int 3) pV pC fun S => rfl) (pairs_unt ru.hs hs)
  have ll2 : (pairs (ru.hs.map D.str) (encs hs)).length ≤ 1000 := by rw [pairs_ln (by rw [encs_map]; simpa using hh), List.length_map]; omega
  obtain ⟨E, lc2⟩ := pLc1 (g := gT 2 (gsCons (gN 8) (gsCons (gN 9) gsNil))) (vs := [8, 9]) (e := dTup (dCons (dVar 8) (dCons (dTup (dCons (dVar 9) (dCons (dVar 2) dNil))) dNil))) (h := fun d => match d with | .tup [a, b] => D.tup [a, .tup [b, .ref r]] | d => d) it2 (fun x hx => by
    obtain ⟨k, hk⟩ := List.getElem?_of_mem hx
    have hkl := (List.getElem?_eq_some_iff.mp hk).1
    rw [pairs_ln (by rw [encs_map]; simpa using hh), List.length_map] at hkl
    have hkh : k < hs.length := by omega
    have e := pairs_ix (xs := ru.hs.map D.str) (ys := encs hs) (i := k) (a := .str ru.hs[k]) (b := enc hs[k]) (by rw [List.getElem?_map, List.getElem?_eq_getElem hkl]; rfl) (by rw [encs_map, List.getElem?_map, List.getElem?_eq_getElem hkh]; rfl)
    rw [hk] at e
    cases e
    exact ⟨_, fun S => rfl, pT (pK pV (pK (pT (pK pV (pK pV pN))) pN))⟩) ll2 (S2 ++ [.dct (toK z1)]) List.nil_prefix
  rw [pairs_h] at lc2
  let S4 : Sto := S2 ++ [.dct (toK z1)] ++ E ++ [.lst (toL z2)]
  have fd2 : fDict [.ref (S2 ++ [O.dct (toK z1)] ++ E).length] S4 = .ok (.ref S4.length) (S4 ++ [.dct (toK z2)]) := by
    have := fDict_list (getLast_app (A := S2 ++ [O.dct (toK z1)] ++ E) (x := O.lst (toL z2))) (fall_pairs (f := Prod.fst) (g := Prod.snd) z2)
    rw [this]
    show _ = DL.R.ok _ (S4 ++ [.dct (toK z2)])
    rw [← em2]
  let B : Sto := E ++ [.lst (toL z2)] ++ [.dct (toK z2)]
  have eS5 : S4 ++ [.dct (toK z2)] = S2 ++ [.dct (toK z1)] ++ B := by simp [S4, B]
  have up := eUpd (ε := ε2) (o := dVar 6) (a := dFn fDict (dCons (dLc (iZipD (dVar 4) (dBin oGet (dVar 1) (dC (.int 3)))) (gT 2 (gsCons (gN 8) (gsCons (gN 9) gsNil))) bYes (dTup (dCons (dVar 8) (dCons (dTup (dCons (dVar 9) (dCons (dVar 2) dNil))) dNil))) [8, 9]) dNil)) (S := S2 ++ [.dct (toK z1)]) (n := S2.length) (kvs := toK z1) (more := toK z2)
    (eZ zV) getLast_app (eFn (eCons lc2 eNil) fd2) (by rw [eS5]; exact mid_get) getLast_app (by simp [S4]) (by simp [toK, z1, z2, hws, hh]; omega)
  rw [eS5, mid_set, em3] at up
  let S6 : Sto := S2 ++ [.dct (toK (z1 ++ z2))] ++ B
  have eS6 : S6 = S1 ++ ([.lst (toL z1)] ++ [.dct (toK (z1 ++ z2))] ++ B) := by simp [S6, S2]
  have R6 : Rep L S6 (denL rs ps env st).2 := by rw [eS6]; exact R1.app _
  have f6 : Frm L S S6 := by rw [eS6]; exact f1.trans Frm.app
  have hd1 : S2.length ∉ L.mut := fun h => by
    have := R1.lt _ h
    simp [S2] at this
    omega
  have E6 : EnvOk L S6 c S2.length M (ru.ns.length + ru.hs.length) (callE ru ws (denT rs hs env)) (ru.ns ++ ru.hs) := by
    refine ⟨⟨toK (z1 ++ z2), mid_get, by simp [toK, z1, z2, hws, hh], fun y => ?_⟩, hd1, fun y hy => ?_⟩
    · rw [valD_lookup, List.lookup_append]
      unfold callE envOf
      rw [List.lookup_append]
      have q1 := zip_ok (L := L) (S := S6) (c := c) (m := M) (xs := ru.ns) (es := ws.map EV.int) (ds := ws.map D.int) (by simp [hws]) (by simp) (fun i y e d a b c => by
        rw [List.getElem?_map] at b c
        cases hw : ws[i]? with
        | none => rw [hw] at b; cases b
        | some w =>
          rw [hw] at b c
          cases b; cases c
          exact ⟨rfl, k1 y (List.mem_of_getElem? a)⟩) y
      have q2 := zip_ok (L := L) (S := S6) (c := c) (m := M) (xs := ru.hs) (es := (denT rs hs env).map EV.th) (ds := hs.map fun d => D.tup [enc d, .ref r]) (by simp [denT_map, hh]) (by simp [denT_map]) (fun i y e d a b c => by
        rw [denT_map, List.map_map, List.getElem?_map] at b
        rw [List.getElem?_map] at c
        cases hw : hs[i]? with
        | none => rw [hw] at b; cases b
        | some w =>
          rw [hw] at b c
          cases b; cases c
          exact ⟨⟨_, _, rfl, (Ih w (List.mem_of_getElem? hw)).up (F.trans f6) (Nat.le_refl _) (Nat.le_refl _)⟩, k3 y (List.mem_of_getElem? a)⟩) y
      cases h1 : (ru.ns.zip (ws.map EV.int)).lookup y with
      | some v =>
        rw [h1] at q1
        cases h2 : (ru.ns.zip (ws.map D.int)).lookup y with
        | none =>
          rw [h2] at q1
          cases v with
          | int v => exact absurd q1.1 (by simp)
          | cell i => exact absurd q1.1 (by simp)
          | th t => obtain ⟨⟨_, _, q, _⟩, _⟩ := q1; cases q
        | some d =>
          rw [h2] at q1
          exact q1
      | none =>
        rw [h1] at q1
        have q1' : (ru.ns.zip (ws.map D.int)).lookup y = none := q1
        show match (ru.hs.zip ((denT rs hs env).map EV.th)).lookup y with | none => ((z1.lookup y).or (z2.lookup y)) = none | some v => EvOk L S6 c M y v ((z1.lookup y).or (z2.lookup y))
        rw [show z1.lookup y = none from q1', Option.none_or]
        exact q2
    · unfold callE envOf
      rw [List.lookup_append]
      rcases List.mem_append.mp hy with h | h
      · have := zip_in (es := ws.map EV.int) (by simp [hws]) h
        cases q : (ru.ns.zip (ws.map EV.int)).lookup y with
        | none => exact absurd q this
        | some v => simp
      · have := zip_in (es := (denT rs hs env).map EV.th) (by simp [denT_map, hh]) h
        cases q : (ru.ns.zip (ws.map EV.int)).lookup y with
        | some v => simp
        | none =>
          rw [Option.none_or]
          exact this
  obtain ⟨S7, e7, f7, R7⟩ := body S6 c S2.length M ws (denT rs hs env) hws (by simp [denT_map, hh]) E6 (denT_grow gr hs ge) (n + 1) (by omega) S6 _ Frm.refl R6 (Nat.le_trans hc gp.c) hf
  refine ⟨S7, worth_with R (by simp) ?_, f6.trans f7, R7⟩
  rw [cs_m_Run_with_names]
  refine run_rt ?_
  unfold b_m_Run_with_names
  refine eTake (eZB (zEqS (zG zV))) ?_
  have hrule : oGet L.rules (.int (i : Int)) S = .ok (encR ru) S := by
    rw [hL]
    unfold encRs
    have il : i < rules.length := (List.getElem?_eq_some_iff.mp e1).1
    have : atI (rules.map encR) (i : Int) = some (encR ru) := by
      rw [atI_in (by omega) (by simpa using il), Int.toNat_natCast, List.getElem?_map, e1]
      rfl
    rw [x_getT, this]
  refine eLet (eBin (eFld (eZ zV) R.run rfl) (eZ (zG zV)) hrule) ?_
  refine eLet (eFn (eCons lc1 eNil) fd1) ?_
  refine eSeq (eExpr up) ?_
  exact eRet (eMeth (eZ zV) R6.run rfl (eCons (eZ zV) (eCons (eZ zV) eNil)) e7)
end
end DL

set_option Elab.async false
set_option linter.all false
set_option maxRecDepth 100000
set_option maxHeartbeats 1000000
namespace DL
open PySem L2
theorem putE_grow_int {env : Ev} (h : GrowE env) (x : Str) (v : Int) : GrowE (putE x (.int v) env) := h.put fun t e => by cases e
theorem putE_grow_cell {env : Ev} (h : GrowE env) (x : Str) (i : Nat) : GrowE (putE x (.cell i) env) := h.put fun t e => by cases e
section
variable {L : Pl} {rs : List RS} {rules : List Rule} {j A : Nat}
mutual
theorem den_impl (ap : Apart L) (hL : L.rules = encRs rules) (RO : RulOk L rules rs j A) (gr : GrowR rs) : ∀ (d : Deed) (k : Nat) {K : List Str} {env : Ev} {S0 : Sto} {c r m b : Nat}, dep d ≤ k → okD (szs (rules.take j)) K d → EnvOk L S0 c r m b env K → b + k ≤ 1000 → GrowE env → Impl L S0 c (den rs d env) (enc d) r (m + 5 + k * (A + 2))
  | .num i, k, K, env, S0, c, r, m, b, _, _, E, _, _ => impl_num.up Frm.refl (Nat.le_refl _) (by omega)
  | .nam x, k, K, env, S0, c, r, m, b, _, h, E, _, _ => (impl_nam E h.1 h.2).up Frm.refl (Nat.le_refl _) (by omega)
  | .dod x, k, K, env, S0, c, r, m, b, _, h, E, _, _ => (impl_dod E h.1 h.2).up Frm.refl (Nat.le_refl _) (by omega)
  | .ask, k, K, env, S0, c, r, m, b, _, _, E, _, _ => (impl_ask ap).up Frm.refl (Nat.le_refl _) (by omega)
  | .rd x, k, K, env, S0, c, r, m, b, _, h, E, _, _ => (impl_rd ap E h).up Frm.refl (Nat.le_refl _) (by omega)
  | .wr x a, 0, K, env, S0, c, r, m, b, hk, _, _, _, _ => by simp [dep] at hk
  | .say a, 0, K, env, S0, c, r, m, b, hk, _, _, _, _ => by simp [dep] at hk
  | .lt x a e, 0, K, env, S0, c, r, m, b, hk, _, _, _, _ => by simp [dep] at hk
  | .own x a e, 0, K, env, S0, c, r, m, b, hk, _, _, _, _ => by simp [dep] at hk
  | .iff a e f, 0, K, env, S0, c, r, m, b, hk, _, _, _, _ => by simp [dep] at hk
  | .two w a e, 0, K, env, S0, c, r, m, b, hk, _, _, _, _ => by simp [dep] at hk
  | .call i ps hs, 0, K, env, S0, c, r, m, b, hk, _, _, _, _ => by simp [dep] at hk
  | .wr x a, k + 1, K, env, S0, c, r, m, b, hk, h, E, hb, ge => by
    simp only [dep] at hk
    have := impl_wr (x := x) ap E ge gr (den_impl ap hL RO gr a k (by omega) h.2 E (by omega) ge) (by omega) h.1
    exact this.up Frm.refl (Nat.le_refl _) (by rw [Nat.succ_mul]; omega)
  | .say a, k + 1, K, env, S0, c, r, m, b, hk, h, E, hb, ge => by
    simp only [dep] at hk
    have := impl_say ap (den_impl ap hL RO gr a k (by omega) h E (by omega) ge) (by omega)
    exact this.up Frm.refl (Nat.le_refl _) (by rw [Nat.succ_mul]; omega)
  | .lt x a e, k + 1, K, env, S0, c, r, m, b, hk, h, E, hb, ge => by
    simp only [dep] at hk
    have := impl_lt (x := x) (bd := e) E (by omega) ge gr h.1 (den_impl ap hL RO gr a k (by omega) h.2.1 E (by omega) ge) (fun v S1 r1 c1 E1 => den_impl ap hL RO gr e k (by omega) h.2.2 E1 (by omega) (putE_grow_int ge x v)) (by omega)
    exact this.up Frm.refl (Nat.le_refl _) (by rw [Nat.succ_mul]; omega)
  | .own x a e, k + 1, K, env, S0, c, r, m, b, hk, h, E, hb, ge => by
    simp only [dep] at hk
    have := impl_own (x := x) (bd := e) ap E (by omega) ge gr h.1 (den_impl ap hL RO gr a k (by omega) h.2.1 E (by omega) ge) (fun v S1 r1 c1 E1 => den_impl ap hL RO gr e k (by omega) h.2.2 E1 (by omega) (putE_grow_cell ge x v)) (by omega)
    exact this.up Frm.refl (Nat.le_refl _) (by rw [Nat.succ_mul]; omega)
  | .iff a e f, k + 1, K, env, S0, c, r, m, b, hk, h, E, hb, ge => by
    simp only [dep] at hk
    have := impl_iff ge gr (den_impl ap hL RO gr a k (by omega) h.1 E (by omega) ge) (den_impl ap hL RO gr e k (by omega) h.2.1 E (by omega) ge) (den_impl ap hL RO gr f k (by omega) h.2.2 E (by omega) ge) (by omega)
    exact this.up Frm.refl (Nat.le_refl _) (by rw [Nat.succ_mul]; omega)
  | .two w a e, k + 1, K, env, S0, c, r, m, b, hk, h, E, hb, ge => by
    simp only [dep] at hk
    have := impl_two (w := w) ge gr (den_impl ap hL RO gr a k (by omega) h.1 E (by omega) ge) (den_impl ap hL RO gr e k (by omega) h.2 E (by omega) ge) (by omega)
    exact this.up Frm.refl (Nat.le_refl _) (by rw [Nat.succ_mul]; omega)
  | .call i ps hs, k + 1, K, env, S0, c, r, m, b, hk, h, E, hb, ge => by
    simp only [dep] at hk
    have hsz := h.1
    rw [szs_take] at hsz
    have hij : i < j := by
      have := (List.getElem?_eq_some_iff.mp hsz).1
      rw [List.length_take] at this
      omega
    rw [List.getElem?_take_of_lt hij] at hsz
    have := impl_call hL RO hij hsz E.r ge gr (M := m + 5 + k * (A + 2)) (fun q hq => dens_impl ap hL RO gr ps k (by omega) h.2.1 E (by omega) ge q hq) (fun q hq => dens_impl ap hL RO gr hs k (by omega) h.2.2 E (by omega) ge q hq) (by omega)
    exact this.up Frm.refl (Nat.le_refl _) (by rw [Nat.succ_mul]; omega)
theorem dens_impl (ap : Apart L) (hL : L.rules = encRs rules) (RO : RulOk L rules rs j A) (gr : GrowR rs) : ∀ (ds : List Deed) (k : Nat) {K : List Str} {env : Ev} {S0 : Sto} {c r m b : Nat}, deps ds ≤ k → okDs (szs (rules.take j)) K ds → EnvOk L S0 c r m b env K → b + k ≤ 1000 → GrowE env → ∀ d ∈ ds, Impl L S0 c (den rs d env) (enc d) r (m + 5 + k * (A + 2))
  | [], k, K, env, S0, c, r, m, b, _, _, _, _, _, d, hd => by cases hd
  | a :: ds, k, K, env, S0, c, r, m, b, hk, h, E, hb, ge, d, hd => by
    simp only [deps] at hk
    by_cases e : d = a
    · rw [e]
      exact den_impl ap hL RO gr a k (by omega) h.1 E hb ge
    · exact dens_impl ap hL RO gr ds k (by omega) h.2 E hb ge d (by rcases List.mem_cons.mp hd with q | q; · exact absurd q e
                                                                    · exact q)
end
end
def rsem : List Rule → List RS := fun l => l.foldl (fun acc r => acc ++ [fun ws ts => den acc r.b (callE r ws ts)]) []
theorem rsem_snoc (l : List Rule) (r : Rule) : rsem (l ++ [r]) = rsem l ++ [fun ws ts => den (rsem l) r.b (callE r ws ts)] := by
  unfold rsem
  rw [List.foldl_append]
  rfl
theorem snoc_ind {α : Type} {P : List α → Prop} (h0 : P []) (h1 : ∀ l a, P l → P (l ++ [a])) : ∀ l, P l := fun l => by
  have : ∀ l : List α, P l.reverse := fun l => by
    induction l with
    | nil => exact h0
    | cons a l ih => rw [List.reverse_cons]; exact h1 _ _ ih
  have q := this l.reverse
  rwa [List.reverse_reverse] at q
theorem rsem_len : ∀ l : List Rule, (rsem l).length = l.length := snoc_ind rfl fun l r ih => by rw [rsem_snoc]; simp [ih]
theorem rsem_get : ∀ (l : List Rule) (i : Nat) (r : Rule), l[i]? = some r → (rsem l)[i]? = some fun ws ts => den (rsem (l.take i)) r.b (callE r ws ts) := snoc_ind (by intro i r h; simp at h) fun l a ih i r h => by
  rw [rsem_snoc]
  by_cases hi : i < l.length
  · rw [List.getElem?_append_left hi] at h
    rw [List.getElem?_append_left (by rw [rsem_len]; exact hi), List.take_append_of_le_length (by omega)]
    exact ih i r h
  · have e : i = l.length := by
      have := (List.getElem?_eq_some_iff.mp h).1
      simp at this
      omega
    subst e
    rw [List.getElem?_append_right (Nat.le_refl _), Nat.sub_self] at h
    cases h
    rw [List.getElem?_append_right (by rw [rsem_len]; exact Nat.le_refl _), rsem_len, Nat.sub_self, List.take_left]
    rfl
theorem callE_grow {r : Rule} {ws : List Int} {ts : List Thk} (h : ∀ t ∈ ts, Grow t) : GrowE (callE r ws ts) := fun x t e => by
  unfold callE envOf at e
  rw [List.lookup_append] at e
  have lk : ∀ {xs : List Str} {es : List EV} {v : EV}, (xs.zip es).lookup x = some v → v ∈ es := by
    intro xs
    induction xs with
    | nil => intro es v h; simp at h
    | cons a xs ih =>
      intro es v h
      cases es with
      | nil => simp at h
      | cons b es =>
        simp only [List.zip_cons_cons, List.lookup_cons] at h
        split at h
        · cases h; exact List.mem_cons_self
        · exact List.mem_cons_of_mem _ (ih h)
  cases h1 : (r.ns.zip (ws.map EV.int)).lookup x with
  | some v =>
    rw [h1] at e
    have m := lk h1
    cases e
    obtain ⟨w, _, q⟩ := List.mem_map.mp m
    cases q
  | none =>
    rw [h1] at e
    have m := lk (show (r.hs.zip (ts.map EV.th)).lookup x = some (.th t) from e)
    obtain ⟨w, hw, q⟩ := List.mem_map.mp m
    cases q
    exact h t hw
theorem rsem_grow : ∀ l : List Rule, GrowR (rsem l) := snoc_ind (fun f h => by cases h) fun l r ih f hf ws ts ht => by
  rw [rsem_snoc] at hf
  rcases List.mem_append.mp hf with h | h
  · exact ih f h ws ts ht
  · rw [List.mem_singleton.mp h]
    exact den_grow ih _ (callE_grow ht)
structure RsRun (rules : List Rule) : Prop where
  ok : okRs rules
  dep : ∀ r ∈ rules, dep r.b ≤ 2
  sz : ∀ r ∈ rules, r.ns.length ≤ 100 ∧ r.hs.length ≤ 100
theorem kd_apart {r : Rule} {sz : List (Nat × Nat)} (o : okRl sz r) : (r.ns ++ r.hs).Nodup := List.nodup_append.mpr ⟨o.nn, o.nh, fun a ha b hb e => by
  have h1 := o.n a ha
  have h2 := o.h b hb
  rw [e] at h1
  omega⟩
def lvl : Nat → Nat
  | 0 => 0
  | j + 1 => 5 + 2 * (lvl j + 2)
theorem lvl_mono {i j : Nat} (h : i ≤ j) : lvl i ≤ lvl j := by
  induction h with
  | refl => exact Nat.le_refl _
  | step _ ih => exact Nat.le_trans ih (by show _ ≤ 5 + 2 * (lvl _ + 2); omega)
theorem take_all {α : Type} {l : List α} {i : Nat} {a : α} (h : l[i]? = some a) (j : Nat) (hj : i < j) : (l.take j)[i]? = some a := by
  rw [List.getElem?_take_of_lt hj]
  exact h
theorem rules_run {L : Pl} {rules : List Rule} (ap : Apart L) (hL : L.rules = encRs rules) (R : RsRun rules) : ∀ j, j ≤ rules.length → RulOk L rules (rsem (rules.take j)) j (lvl j)
  | 0, _ => fun i h => by omega
  | j + 1, hj => by
    intro i hi
    have il : i < rules.length := by omega
    have ih := rules_run ap hL R i (by omega)
    have e1 : rules[i]? = some rules[i] := List.getElem?_eq_getElem il
    have o := R.ok i _ e1
    have hm := List.getElem_mem il
    have e2 := rsem_get (rules.take (j + 1)) i rules[i] (take_all e1 _ hi)
    rw [List.take_take, Nat.min_eq_left (by omega)] at e2
    refine ⟨rules[i], _, e1, e2, kd_apart o, o.n, o.h, (R.sz _ hm).1, (R.sz _ hm).2, fun S c ρ m ws ts hw ht E gt => ?_⟩
    have := den_impl ap hL ih (rsem_grow _) rules[i].b 2 (R.dep _ hm) (by simpa using o.b) E (by have := R.sz _ hm; omega) (callE_grow gt)
    exact this.up Frm.refl (Nat.le_refl _) (by
      have := lvl_mono (show i + 1 ≤ j + 1 by omega)
      simp only [lvl] at this ⊢
      omega)
structure RlA (rules : List Rule) (A : Nat) : Prop where
  ok : okRs rules
  sz : ∀ r ∈ rules, r.ns.length ≤ 100 ∧ r.hs.length ≤ 100
  imp : ∀ (L : Pl), Apart L → L.rules = encRs rules → RulOk L rules (rsem (rules.take rules.length)) rules.length A
theorem RsRun.rl {rules : List Rule} (R : RsRun rules) : RlA rules (lvl rules.length) := ⟨R.ok, R.sz, fun L ap hL => rules_run ap hL R rules.length (Nat.le_refl _)⟩
end DL

set_option Elab.async false
set_option linter.all false
set_option maxRecDepth 100000
set_option maxHeartbeats 1000000
namespace DL
open PySem L2
end DL

set_option Elab.async false
set_option linter.all false
set_option maxRecDepth 100000
set_option maxHeartbeats 1000000
namespace DL
open PySem L2
theorem pre_get {B S : Sto} {n : Nat} {o : O} (h : B <+: S) (e : B[n]? = some o) : S[n]? = some o := by
  obtain ⟨T, rfl⟩ := h
  rw [List.getElem?_append_left (List.getElem?_eq_some_iff.mp e).1]
  exact e
end DL

set_option Elab.async false
set_option linter.all false
set_option maxRecDepth 100000
set_option maxHeartbeats 1000000
namespace DL
open PySem L2
abbrev RW := List Int → Int
mutual
def wt (rw : List RW) (hw : Str → Int) : Deed → Int
  | .num _ => 1 | .nam _ => 1 | .ask => 1 | .rd _ => 1
  | .dod x => hw x
  | .wr _ a => 1 + [wt rw hw a].sum
  | .say a => 1 + [wt rw hw a].sum
  | .lt _ a b => 1 + [wt rw hw a, wt rw hw b].sum
  | .own _ a b => 1 + [wt rw hw a, wt rw hw b].sum
  | .iff a b c => 1 + [wt rw hw a, wt rw hw b, wt rw hw c].sum
  | .two .lop a b => 1 + wt rw hw a + 3 * wt rw hw b
  | .two _ a b => 1 + [wt rw hw a, wt rw hw b].sum
  | .call i ps hs => 1 + (wtL rw hw ps).sum + ((rw[i]?).getD fun _ => 0) (wtL rw hw hs)
def wtL (rw : List RW) (hw : Str → Int) : List Deed → List Int
  | [] => []
  | d :: ds => wt rw hw d :: wtL rw hw ds
end
theorem wtL_map (rw : List RW) (hw : Str → Int) : ∀ ds : List Deed, wtL rw hw ds = ds.map (wt rw hw)
  | [] => rfl
  | d :: ds => by rw [wtL, wtL_map rw hw ds]; rfl
def hwOf (hs : List Str) (ws : List Int) : Str → Int := fun x => ((hs.zip ws).lookup x).getD 1
def rwt : List Rule → List RW := fun l => l.foldl (fun acc r => acc ++ [fun ws => wt acc (hwOf r.hs ws) r.b]) []
theorem rwt_snoc (l : List Rule) (r : Rule) : rwt (l ++ [r]) = rwt l ++ [fun ws => wt (rwt l) (hwOf r.hs ws) r.b] := by
  unfold rwt
  rw [List.foldl_append]
  rfl
theorem rwt_len : ∀ l : List Rule, (rwt l).length = l.length := snoc_ind rfl fun l r ih => by rw [rwt_snoc]; simp [ih]
theorem rwt_get : ∀ (l : List Rule) (i : Nat) (r : Rule), l[i]? = some r → (rwt l)[i]? = some fun ws => wt (rwt (l.take i)) (hwOf r.hs ws) r.b := snoc_ind (by intro i r h; simp at h) fun l a ih i r h => by
  rw [rwt_snoc]
  by_cases hi : i < l.length
  · rw [List.getElem?_append_left hi] at h
    rw [List.getElem?_append_left (by rw [rwt_len]; exact hi), List.take_append_of_le_length (by omega)]
    exact ih i r h
  · have e : i = l.length := by
      have := (List.getElem?_eq_some_iff.mp h).1
      simp at this
      omega
    subst e
    rw [List.getElem?_append_right (Nat.le_refl _), Nat.sub_self] at h
    cases h
    rw [List.getElem?_append_right (by rw [rwt_len]; exact Nat.le_refl _), rwt_len, Nat.sub_self, List.take_left]
    rfl
section
variable {B : Sto}
theorem lc_pure2 {src : Src} {g : GDen} {c : DenB} {e : Den} {vs : List Nat} {ε : Env} {xs : List D} {os : List (Option D)} (hsrc : ∀ S', B <+: S' → src S' = some xs) (hlen : xs.length = os.length) (hx : ∀ (i : Nat) (x : D) (o : Option D), xs[i]? = some x → os[i]? = some o → ∃ ε', (∀ S, g x (wipeE ε vs) S = some ε') ∧ PurB B c ε' o.isSome ∧ ∀ v, o = some v → PurE B e ε' v) (hl : xs.length ≤ 1000) :
    ∀ (k i : Nat) (acc : List D) (S : Sto), i + k = xs.length → acc.length ≤ i → B <+: S → ∃ E, lcI src g c e vs ε (k + 1) i acc S = .ok (acc ++ (os.drop i).filterMap id) (S ++ E)
  | 0, i, acc, S, hk, ha, hS => by
    refine ⟨[], ?_⟩
    unfold lcI
    have e1 : xs[i]? = none := List.getElem?_eq_none (by omega)
    have e2 : os.drop i = [] := List.drop_eq_nil_of_le (by omega)
    simp only [hsrc S hS, e1, e2]
    simp
  | k + 1, i, acc, S, hk, ha, hS => by
    have hi : i < xs.length := by omega
    have e1 : xs[i]? = some xs[i] := List.getElem?_eq_getElem hi
    have e1' : os[i]? = some os[i] := List.getElem?_eq_getElem (by omega)
    obtain ⟨ε', hg, hc, he⟩ := hx i _ _ e1 e1'
    obtain ⟨E1, e2⟩ := hc S hS
    have e3 : os.drop i = os[i] :: os.drop (i + 1) := List.drop_eq_getElem_cons (by omega)
    unfold lcI
    simp only [hsrc S hS, e1, hg, e2, noX, x_bind]
    rw [e3]
    cases ho : os[i] with
    | some v =>
      obtain ⟨E2, e4⟩ := he v ho (S ++ E1) (pre_app hS)
      obtain ⟨E3, e5⟩ := lc_pure2 hsrc hlen hx hl k (i + 1) (acc ++ [v]) (S ++ E1 ++ E2) (by omega) (by simp; omega) (pre_app (pre_app hS))
      refine ⟨E1 ++ E2 ++ E3, ?_⟩
      simp only [Option.isSome_some, if_true, e4, noX, x_bind]
      rw [if_pos (show acc.length < big from Nat.lt_of_lt_of_le (show acc.length < 1001 by omega) (by decide)), e5]
      simp
    | none =>
      obtain ⟨E3, e5⟩ := lc_pure2 hsrc hlen hx hl k (i + 1) acc (S ++ E1) (by omega) (by omega) (pre_app hS)
      refine ⟨E1 ++ E3, ?_⟩
      simp only [Option.isSome_none, Bool.false_eq_true, if_false, e5]
      simp
theorem pLc2 {it : IDen} {g : GDen} {c : DenB} {e : Den} {vs : List Nat} {ε : Env} {xs : List D} (os : List (Option D)) (hi : PurI B it ε xs) (hlen : xs.length = os.length) (hx : ∀ (i : Nat) (x : D) (o : Option D), xs[i]? = some x → os[i]? = some o → ∃ ε', (∀ S, g x (wipeE ε vs) S = some ε') ∧ PurB B c ε' o.isSome ∧ ∀ v, o = some v → PurE B e ε' v) (hl : xs.length ≤ 1000) : PurL B (dLc it g c e vs) ε (os.filterMap id) := fun S hS => by
  obtain ⟨E, src, e1, hs⟩ := hi S hS
  obtain ⟨E2, e2⟩ := lc_pure2 (B := S ++ E) (os := os) hs hlen (fun i x o h1 h2 => by
    obtain ⟨ε', a, b, k⟩ := hx i x o h1 h2
    exact ⟨ε', a, fun S' hS' => b S' ((pre_app hS).trans hS'), fun v q S' hS' => k v q S' ((pre_app hS).trans hS')⟩) hl xs.length 0 [] (S ++ E) (by omega) (by simp) (List.prefix_refl _)
  refine ⟨E ++ E2, ?_⟩
  unfold dLc
  rw [e1, x_bind]
  simp only [hs (S ++ E) (List.prefix_refl _), e2, x_bind, lcEnd]
  simp
theorem pLc3 {it : IDen} {g : GDen} {e : Den} {vs : List Nat} {ε : Env} {xs : List D} (os : List D) (hi : PurI B it ε xs) (hlen : xs.length = os.length) (hx : ∀ (i : Nat) (x o : D), xs[i]? = some x → os[i]? = some o → ∃ ε', (∀ S, g x (wipeE ε vs) S = some ε') ∧ PurE B e ε' o) (hl : xs.length ≤ 1000) : PurL B (dLc it g bYes e vs) ε os := by
  have := pLc2 (c := bYes) (os.map some) hi (by simpa using hlen) (fun i x o h1 h2 => by
    rw [List.getElem?_map] at h2
    cases h3 : os[i]? with
    | none => rw [h3] at h2; cases h2
    | some v =>
      rw [h3] at h2
      cases h2
      obtain ⟨ε', a, b⟩ := hx i x v h1 h3
      exact ⟨ε', a, bYes_pure, fun w q => by cases q; exact b⟩) hl
  simpa [List.filterMap_map] using this
def WEnv (B : Sto) (r : Nat) (hw : Str → Int) : Prop := ∃ kvs, B[r]? = some (.dct kvs) ∧ ∀ x, (valD kvs (.inr x)).getD (.int 1) = .int (hw x)
theorem WEnv.up {B' : Sto} {r : Nat} {hw : Str → Int} (h : WEnv B r hw) (hB : B <+: B') : WEnv B' r hw := by
  obtain ⟨kvs, e, q⟩ := h
  exact ⟨kvs, pre_get hB e, q⟩
end
end DL

set_option Elab.async false
set_option linter.all false
set_option maxRecDepth 100000
set_option maxHeartbeats 1000000
namespace DL
open PySem L2
section
variable {B : Sto} {a b : Den} {ba : DenB} {ε : Env} {d : D} {t : Bool} {ds : List D} {g : GDen} {w : SDen} {fl : Fl}
theorem pZ (h : ZE a ε d) : PurE B a ε d := fun S _ => ⟨[], by rw [h S]; simp⟩
theorem pZB (h : ZB ba ε t) : PurB B ba ε t := fun S _ => ⟨[], by rw [h S]; simp⟩
theorem pLetL {ε' : Nat → Env} (ha : PurL B a ε ds) (hg : ∀ k S, g (.ref k) ε S = some (ε' k)) (hw : ∀ (B' : Sto) (k : Nat), B <+: B' → B'[k]? = some (.lst ds) → PurS B' w (ε' k) fl) : PurS B (sSeq (sAsg a g) w) ε fl := pLetAt fun S hS => by
  obtain ⟨E, e⟩ := ha S hS
  refine ⟨E ++ [.lst ds], _, _, by rw [e, List.append_assoc], hg _, ?_⟩
  refine hw _ _ (pre_app hS) ?_
  rw [← List.append_assoc]
  exact getLast_app
theorem pLetD {ε' : Nat → Env} {kvs : List (Key × D)} (ha : PurL B a ε ds) (hk : fall pairD ds = some kvs) (hg : ∀ k S, g (.ref k) ε S = some (ε' k)) (hw : ∀ (B' : Sto) (k : Nat), B <+: B' → B'[k]? = some (.dct (mergeD [] kvs)) → PurS B' w (ε' k) fl) : PurS B (sSeq (sAsg (dFn fDict (dCons a dNil)) g) w) ε fl := pLetAt fun S hS => by
  obtain ⟨E, e⟩ := ha S hS
  refine ⟨E ++ [.lst ds] ++ [.dct (mergeD [] kvs)], .ref (S ++ E ++ [O.lst ds]).length, _, ?_, hg _, ?_⟩
  · rw [eFn (eCons e eNil) (fDict_list getLast_app hk)]
    simp
  · refine hw _ _ (pre_app hS) ?_
    rw [← List.append_assoc, ← List.append_assoc]
    exact getLast_app
theorem pGetL {i k : Nat} {j : Int} {x : D} (ha : PurE B a ε (.ref k)) (hk : B[k]? = some (.lst ds)) (h : atI ds j = some x) : PurE B (dBin oGet a (dC (.int j))) ε x := fun S hS => by
  obtain ⟨E, e⟩ := ha S hS
  exact ⟨E, eBin e (eZ zC) (eGetL (pre_get (pre_app hS) hk) h)⟩
theorem pSumR {k : Nat} {ns : List Int} (ha : PurE B a ε (.ref k)) (hk : B[k]? = some (.lst (ns.map .int))) : PurE B (dFn fSum (dCons a dNil)) ε (.int ns.sum) := fun S hS => by
  obtain ⟨E, e⟩ := ha S hS
  refine ⟨E, eFn (eCons e eNil) ?_⟩
  unfold fSum fLst
  have q : litems (S ++ E) (.ref k) = some (ns.map .int) := by
    unfold litems
    simp only [pre_get (pre_app hS) hk]
  simp only [q, fall_intD]
theorem pGet2 {r : Nat} {hw : Str → Int} {x : Str} {k c : Den} (hW : WEnv B r hw) (ha : ZE a ε (.ref r)) (hk : ZE k ε (.str x)) (hc : ZE c ε (.int 1)) : PurE B (dGet2 a k c) ε (.int (hw x)) := fun S hS => by
  obtain ⟨kvs, e, q⟩ := hW
  refine ⟨[], ?_⟩
  rw [eGet2 ha hk hc (pre_get hS e) (rfl : keyD (.str x) = some (.inr x)), q x]
  simp
end
theorem lk_map {β γ : Type} {f : β → γ} {x : Str} : ∀ {xs : List Str} {ys : List β}, (xs.zip (ys.map f)).lookup x = ((xs.zip ys).lookup x).map f
  | [], _ => by simp
  | a :: xs, [] => by simp
  | a :: xs, b :: ys => by
    simp only [List.map_cons, List.zip_cons_cons, List.lookup_cons]
    split
    · rfl
    · exact lk_map
theorem tupD_isi {S : Sto} : ∀ d : Deed, isiD "tuple" S (enc d) = some true
  | .num _ => rfl | .nam _ => rfl | .dod _ => rfl | .ask => rfl | .rd _ => rfl | .wr _ _ => rfl | .say _ => rfl | .lt _ _ _ => rfl | .own _ _ _ => rfl | .iff _ _ _ => rfl | .two _ _ _ => rfl | .call _ _ _ => rfl
theorem strD_isi {S : Sto} {x : Str} : isiD "tuple" S (.str x) = some false := rfl
theorem pIsi {B : Sto} {a : Den} {ε : Env} {d : D} {t : Bool} {cn : String} (ha : ZE a ε d) (h : ∀ S, isiD cn S d = some t) : PurB B (dTest (dIsi cn a)) ε t := fun S _ => ⟨[], by rw [eTest (eIsi (eZ ha) (h S))]; simp⟩
section
variable {rules : List Rule} {j A : Nat} {rw' : List RW}
def RwOk (rules : List Rule) (rw' : List RW) (j A : Nat) : Prop := ∀ i < j, ∃ r f, rules[i]? = some r ∧ rw'[i]? = some f ∧ r.hs.Nodup ∧ r.ns.length ≤ 100 ∧ r.hs.length ≤ 100 ∧
  ∀ (B : Sto) (ρ n : Nat) (ws : List Int), ws.length = r.hs.length → A ≤ n → WEnv B ρ (hwOf r.hs ws) → PurR B (csem n .f__law_weight [encRs rules, enc r.b, .ref ρ]) (.int (f ws))
theorem inner_sem {B : Sto} {n r : Nat} {hw : Str → Int} {ε : Env} {wd : Str} {ds : List D} {ps : List Deed} {xs : List Str} {dd : D} (h0 : ε = [some (encRs rules), some (.tup (.str wd :: ds)), some (.ref r), some (.str wd), none, none, none, none, none]) (hds : ds = xs.map D.str ++ ps.map enc) (hl : xs.length + ps.length ≤ 100)
    (I : ∀ q ∈ ps, PurR B (csem n .f__law_weight [encRs rules, enc q, .ref r]) (.int (wt rw' hw q))) :
    PurL B (dLc (iAny (dSl (dVar 1) (dPart (dC (.int 1))) dNoPart)) (gN 8) (dTest (dIsi "tuple" (dVar 8))) (dCall 3 (csem n .f__law_weight) (dCons (dVar 0) (dCons (dVar 8) (dCons (dVar 2) dNil)))) [8]) ε ((ps.map (wt rw' hw)).map .int) := by
  subst h0
  have hi : PurI B (iAny (dSl (dVar 1) (dPart (dC (.int 1))) dNoPart)) [some (encRs rules), some (.tup (.str wd :: ds)), some (.ref r), some (.str wd), none, none, none, none, none] ds := by
    have := piTup (B := B) (pSl0 (a := dVar 1) (b := dC (.int 1)) (ε := [some (encRs rules), some (.tup (.str wd :: ds)), some (.ref r), some (.str wd), none, none, none, none, none]) (j := 1) (pV (i := 1) (d := .tup (.str wd :: ds))) pC)
    have e : cutD (.str wd :: ds) (some 1) none = ds := by
      unfold cutD
      rw [show (some (1 : Int)) = some ((1 : Nat) : Int) from rfl, HT.sIx_nat, HT.sIx_none, Nat.min_eq_left (by simp)]
      simp
    rw [e] at this
    exact this
  have h := pLc2 (g := gN 8) (vs := [8]) (c := dTest (dIsi "tuple" (dVar 8))) (e := dCall 3 (csem n .f__law_weight) (dCons (dVar 0) (dCons (dVar 8) (dCons (dVar 2) dNil)))) (xs.map (fun _ => (none : Option D)) ++ ps.map fun q => some (.int (wt rw' hw q))) hi (by rw [hds]; simp) (fun i x o h1 h2 => by
    refine ⟨_, fun S => rfl, ?_⟩
    rw [hds] at h1
    by_cases hx : i < xs.length
    · rw [List.getElem?_append_left (by simpa using hx), List.getElem?_map, List.getElem?_eq_getElem hx] at h1 h2
      cases h1; cases h2
      exact ⟨pIsi zV fun _ => strD_isi, fun v q => by cases q⟩
    · rw [List.getElem?_append_right (by simp; omega), List.getElem?_map, List.length_map] at h1 h2
      cases hp : ps[i - xs.length]? with
      | none => rw [hp] at h1; cases h1
      | some q =>
        rw [hp] at h1 h2
        cases h1; cases h2
        exact ⟨pIsi zV fun _ => tupD_isi q, fun v e => by
          cases e
          exact pCallR (pK pV (pK pV (pK pV pN))) (I q (List.mem_of_getElem? hp))⟩) (by rw [hds]; simp; omega)
  have e : List.filterMap id (xs.map (fun _ => (none : Option D)) ++ ps.map fun q => some (D.int (wt rw' hw q))) = (ps.map (wt rw' hw)).map .int := by
    rw [List.filterMap_append, List.filterMap_map, List.filterMap_map]
    have a : List.filterMap (id ∘ fun _ : Str => (none : Option D)) xs = [] := by induction xs <;> simp_all
    rw [a]
    simp [List.map_map, Function.comp_def]
  rw [e] at h
  exact h
theorem wt_plain {B : Sto} {n r : Nat} {hw : Str → Int} {wd : Str} {ds : List D} {ps : List Deed} {xs : List Str} (hwd : wd ∈ (["write", "say", "let", "own", "if", "then", "add", "less"] : List Str)) (hds : ds = xs.map D.str ++ ps.map enc) (hl : xs.length + ps.length ≤ 100)
    (I : ∀ q ∈ ps, PurR B (csem (n + 1) .f__law_weight [encRs rules, enc q, .ref r]) (.int (wt rw' hw q))) : PurR B (csem (n + 2) .f__law_weight [encRs rules, .tup (.str wd :: ds), .ref r]) (.int (1 + (ps.map (wt rw' hw)).sum)) := by
  rw [cs_f__law_weight]
  refine pur_runR ?_
  unfold b_f__law_weight
  refine pLet (pZ (zG zV atI_0)) (fun _ => rfl) ?_
  have t1 : ∀ {ε : Env}, ε[3]? = some (some (.str wd)) → ZB (dTest (dBin oIn (dVar 3) (dTup (dCons (dC (.str "number")) (dCons (dC (.str "name")) (dCons (dC (.str "ask")) (dCons (dC (.str "read")) dNil))))))) ε false := fun {ε} h => by
    simp only [List.mem_cons, List.not_mem_nil, or_false] at hwd
    rcases hwd with rfl | rfl | rfl | rfl | rfl | rfl | rfl | rfl
    all_goals exact zIn (qs := ["number", "name", "ask", "read"]) (zV h) (fun _ => rfl)
  have t2 : ∀ {ε : Env} (q : Str), q ∈ (["do", "call", "loop"] : List Str) → ε[3]? = some (some (.str wd)) → ZB (dTest (dBin oEq (dVar 3) (dC (.str q)))) ε false := fun {ε} q hq h => by
    have : ∀ a ∈ (["write", "say", "let", "own", "if", "then", "add", "less"] : List Str), ∀ b ∈ (["do", "call", "loop"] : List Str), decide (a = b) = false := by decide +kernel
    exact zEqS (zV h) (this wd hwd q hq)
  refine pSkip (pZB (t1 rfl)) (pSkip (pZB (t2 "do" (by simp) rfl)) (pSkip (pZB (t2 "call" (by simp) rfl)) ?_))
  refine pLetL (inner_sem (dd := .non) rfl hds hl I) (fun _ _ => rfl) fun B' k hB hk => ?_
  exact pSkip (pZB (t2 "loop" (by simp) rfl)) (pRet (pAdd pC (pSumR pV hk)))
end
end DL

set_option Elab.async false
set_option linter.all false
set_option maxRecDepth 100000
set_option maxHeartbeats 1000000
namespace DL
open PySem L2
section
variable {rules : List Rule} {j A : Nat} {rw' : List RW} {B : Sto} {n r : Nat} {hw : Str → Int}
theorem wt_leaf {wd : Str} {ds : List D} (hwd : wd ∈ (["number", "name", "ask", "read"] : List Str)) : PurR B (csem (n + 2) .f__law_weight [encRs rules, .tup (.str wd :: ds), .ref r]) (.int 1) := by
  rw [cs_f__law_weight]
  refine pur_runR ?_
  unfold b_f__law_weight
  refine pLet (pZ (zG zV atI_0)) (fun _ => rfl) ?_
  refine pTake (pZB (zIn (qs := ["number", "name", "ask", "read"]) zV (fun _ => rfl) (by simp) (decide_eq_true hwd))) (pRet pC)
theorem wt_dod {x : Str} (hW : WEnv B r hw) : PurR B (csem (n + 2) .f__law_weight [encRs rules, enc (.dod x), .ref r]) (.int (hw x)) := by
  rw [cs_f__law_weight]
  refine pur_runR ?_
  unfold b_f__law_weight
  refine pLet (pZ (zG zV)) (fun _ => rfl) ?_
  exact pSkip (pZB (zIn (qs := ["number", "name", "ask", "read"]) zV (fun _ => rfl))) (pTake (pZB (zEqS zV)) (pRet (pGet2 hW zV (zG zV) zC)))
theorem wt_lop {a b : Deed} (Ia : PurR B (csem (n + 1) .f__law_weight [encRs rules, enc a, .ref r]) (.int (wt rw' hw a))) (Ib : PurR B (csem (n + 1) .f__law_weight [encRs rules, enc b, .ref r]) (.int (wt rw' hw b))) :
    PurR B (csem (n + 2) .f__law_weight [encRs rules, enc (.two .lop a b), .ref r]) (.int (1 + wt rw' hw a + 3 * wt rw' hw b)) := by
  rw [cs_f__law_weight]
  refine pur_runR ?_
  unfold b_f__law_weight
  refine pLet (pZ (zG zV)) (fun _ => rfl) ?_
  refine pSkip (pZB (zIn (qs := ["number", "name", "ask", "read"]) (zV (d := .str "loop")) (fun _ => rfl))) (pSkip (pZB (zEqS (zV (d := .str "loop")))) (pSkip (pZB (zEqS (zV (d := .str "loop")))) ?_))
  refine pLetL (inner_sem (rw' := rw') (hw := hw) (xs := []) (ps := [a, b]) (dd := .non) (wd := "loop") (ds := [enc a, enc b]) rfl rfl (by simp) (fun q hq => by
    simp only [List.mem_cons, List.not_mem_nil, or_false] at hq
    rcases hq with rfl | rfl
    · exact Ia
    · exact Ib)) (fun _ _ => rfl) fun B' k hB hk => ?_
  refine pTake (pZB (zEqS (zV (d := .str "loop")))) (pRet (pAdd (pAdd pC (pGetL (i := 0) pV hk rfl)) (pMulL pC (pGetL (i := 0) pV hk rfl))))
theorem wt_call {i : Nat} {ps hs : List Deed} {ru : Rule} {f : RW} (e1 : rules[i]? = some ru) (nd : ru.hs.Nodup) (hh : ru.hs.length = hs.length) (hpl : ps.length ≤ 1000) (hhl : hs.length ≤ 1000)
    (Ip : ∀ q ∈ ps, PurR B (csem (n + 1) .f__law_weight [encRs rules, enc q, .ref r]) (.int (wt rw' hw q))) (Ih : ∀ q ∈ hs, PurR B (csem (n + 1) .f__law_weight [encRs rules, enc q, .ref r]) (.int (wt rw' hw q)))
    (body : ∀ (B' : Sto) (ρ : Nat), WEnv B' ρ (hwOf ru.hs (wtL rw' hw hs)) → PurR B' (csem (n + 1) .f__law_weight [encRs rules, enc ru.b, .ref ρ]) (.int (f (wtL rw' hw hs)))) :
    PurR B (csem (n + 2) .f__law_weight [encRs rules, enc (.call i ps hs), .ref r]) (.int (1 + (wtL rw' hw ps).sum + f (wtL rw' hw hs))) := by
  rw [cs_f__law_weight]
  refine pur_runR ?_
  unfold b_f__law_weight
  refine pLet (pZ (zG zV)) (fun _ => rfl) ?_
  have il : i < rules.length := (List.getElem?_eq_some_iff.mp e1).1
  have ai : atI rules (i : Int) = some ru := by rw [atI_in (by omega) (by omega), Int.toNat_natCast, e1]
  refine pSkip (pZB (zIn (qs := ["number", "name", "ask", "read"]) zV (fun _ => rfl))) (pSkip (pZB (zEqS zV)) (pTake (pZB (zEqS zV)) ?_))
  -- there
  let ws := wtL rw' hw hs
  have hws : ws.length = hs.length := by show (wtL rw' hw hs).length = _; rw [wtL_map]; simp
  let z : List (Str × D) := ru.hs.zip (ws.map .int)
  have zk : z.map (·.1) = ru.hs := List.map_fst_zip (by simp [hws, hh])
  have it1 : PurI B (iZipD (dBin oGet (dBin oGet (dVar 0) (dBin oGet (dVar 1) (dC (.int 1)))) (dC (.int 1))) (dBin oGet (dVar 1) (dC (.int 3)))) [some (encRs rules), some (enc (.call i ps hs)), some (.ref r), some (.str "call"), none, none, none, none, none] (pairs (ru.hs.map .str) (encs hs)) :=
    piZip (xs := ru.hs.map .str) (ys := encs hs) (pO (d := encR ru) (e := .int 1) (pGetRule (i := (i : Int)) pV (pZ (zG zV)) ai) pC fun S => rfl) (pZ (zG zV)) (pairs_unt ru.hs hs)
  have pl : (pairs (ru.hs.map D.str) (encs hs)).length = hs.length := by rw [pairs_ln (by rw [encs_map]; simpa using hh), List.length_map, hh]
  have lc1 := pLc3 (g := gT 2 (gsCons (gN 7) (gsCons (gN 8) gsNil))) (vs := [7, 8]) (e := dTup (dCons (dVar 7) (dCons (dCall 3 (csem (n + 1) .f__law_weight) (dCons (dVar 0) (dCons (dVar 8) (dCons (dVar 2) dNil)))) dNil))) (z.map fun q => D.tup [.str q.1, q.2]) it1 (by rw [pl]; simp [z, hws, hh]) (fun k x o h1 h2 => by
    have hk : k < hs.length := by
      have := (List.getElem?_eq_some_iff.mp h1).1
      omega
    have e := pairs_ix (xs := ru.hs.map D.str) (ys := encs hs) (i := k) (a := .str ru.hs[k]) (b := enc hs[k]) (by rw [List.getElem?_map, List.getElem?_eq_getElem (by omega)]; rfl) (by rw [encs_map, List.getElem?_map, List.getElem?_eq_getElem hk]; rfl)
    rw [h1] at e
    cases e
    have ez : z[k]? = some (ru.hs[k], .int (wt rw' hw hs[k])) := by
      show (ru.hs.zip (ws.map D.int))[k]? = _
      rw [List.getElem?_zip_eq_some]
      refine ⟨List.getElem?_eq_getElem (by omega), ?_⟩
      show ((wtL rw' hw hs).map D.int)[k]? = _
      rw [wtL_map, List.map_map, List.getElem?_map, List.getElem?_eq_getElem hk]
      rfl
    rw [List.getElem?_map, ez] at h2
    cases h2
    exact ⟨_, fun S => rfl, pT (pK pV (pK (pCallR (pK pV (pK pV (pK pV pN))) (Ih _ (List.getElem_mem hk))) pN))⟩) (by omega)
  have em : mergeD [] (z.map fun q => ((.inr q.1 : Key), q.2)) = z.map fun q => ((.inr q.1 : Key), q.2) := by
    rw [mergeD_new _ [] (by
      rw [List.nil_append, List.map_map]
      have : ((·.1) ∘ fun q : Str × D => ((.inr q.1 : Key), q.2)) = Sum.inr ∘ (·.1) := rfl
      rw [this, ← List.map_map, zk]
      exact nodup_map (fun a b q => Sum.inr.inj q) nd)]
    rfl
  refine pLetD lc1 (fall_pairs (f := Prod.fst) (g := Prod.snd) z) (fun _ _ => rfl) fun B' k hB hk => ?_
  rw [em] at hk
  have hWk : WEnv B' k (hwOf ru.hs ws) := ⟨_, hk, fun x => by
    rw [valD_lookup]
    show ((ru.hs.zip (ws.map D.int)).lookup x).getD (.int 1) = .int (((ru.hs.zip ws).lookup x).getD 1)
    rw [lk_map]
    cases (ru.hs.zip ws).lookup x <;> rfl⟩
  -- the worths
  have it2 : PurI B' (iAny (dBin oGet (dVar 1) (dC (.int 2)))) [some (encRs rules), some (enc (.call i ps hs)), some (.ref r), some (.str "call"), some (.ref k), none, none, none, none] (encs ps) := piTup (pZ (zG zV))
  have lc2 := pLc3 (g := gN 8) (vs := [8]) (e := dCall 3 (csem (n + 1) .f__law_weight) (dCons (dVar 0) (dCons (dVar 8) (dCons (dVar 2) dNil)))) ((wtL rw' hw ps).map D.int) it2 (by rw [encs_map, wtL_map]; simp) (fun k x o h1 h2 => by
    rw [encs_map, List.getElem?_map] at h1
    rw [wtL_map, List.map_map, List.getElem?_map] at h2
    cases hp : ps[k]? with
    | none => rw [hp] at h1; cases h1
    | some q =>
      rw [hp] at h1 h2
      cases h1; cases h2
      exact ⟨_, fun S => rfl, pCallR (pK pV (pK pV (pK pV pN))) ((Ip q (List.mem_of_getElem? hp)).up hB)⟩) (by rw [encs_map]; simpa using hpl)
  refine pLet (pSumL lc2) (fun _ => rfl) ?_
  refine pRet (pAdd (pAdd pC pV) (pCallR (pK pV (pK (pO (d := encR ru) (e := .int 2) (pGetRule (i := (i : Int)) pV (pZ (zG zV)) ai) pC fun S => rfl) (pK pV pN))) (body B' k hWk)))
mutual
theorem weight_sem (RO : RwOk rules rw' j A) : ∀ (d : Deed) (k n : Nat) {K : List Str} {B : Sto} {r : Nat} {hw : Str → Int}, dep d ≤ k → okD (szs (rules.take j)) K d → WEnv B r hw → k + 2 + A ≤ n → PurR B (csem n .f__law_weight [encRs rules, enc d, .ref r]) (.int (wt rw' hw d))
  | _, _, 0, _, _, _, _, _, _, _, h => by omega
  | _, _, 1, _, _, _, _, _, _, _, h => by omega
  | .num i, k, n + 2, K, B, r, hw, _, _, _, _ => wt_leaf (by simp)
  | .nam i, k, n + 2, K, B, r, hw, _, _, _, _ => wt_leaf (by simp)
  | .ask, k, n + 2, K, B, r, hw, _, _, _, _ => wt_leaf (by simp)
  | .rd i, k, n + 2, K, B, r, hw, _, _, _, _ => wt_leaf (by simp)
  | .dod x, k, n + 2, K, B, r, hw, _, _, hW, _ => wt_dod hW
  | .wr x a, k, n + 2, K, B, r, hw, hk, h, hW, hn => by
    simp only [dep] at hk
    exact wt_plain (xs := [x]) (ps := [a]) (ds := [.str x, enc a]) (by simp) rfl (by simp) (fun q hq => by
      rw [List.mem_singleton.mp hq]
      exact weight_sem RO a (k - 1) (n + 1) (by omega) h.2 hW (by omega))
  | .say a, k, n + 2, K, B, r, hw, hk, h, hW, hn => by
    simp only [dep] at hk
    exact wt_plain (xs := []) (ps := [a]) (ds := [enc a]) (by simp) rfl (by simp) (fun q hq => by
      rw [List.mem_singleton.mp hq]
      exact weight_sem RO a (k - 1) (n + 1) (by omega) h hW (by omega))
  | .lt x a b, k, n + 2, K, B, r, hw, hk, h, hW, hn => by
    simp only [dep] at hk
    have Ia := weight_sem RO a (k - 1) (n + 1) (by omega) h.2.1 hW (by omega)
    have Ib := weight_sem RO b (k - 1) (n + 1) (by omega) h.2.2 hW (by omega)
    exact wt_plain (xs := [x]) (ps := [a, b]) (ds := [.str x, enc a, enc b]) (by simp) rfl (by simp) (fun q hq => by
      simp only [List.mem_cons, List.not_mem_nil, or_false] at hq
      rcases hq with e | e
      · rw [e]; exact Ia
      · rw [e]; exact Ib)
  | .own x a b, k, n + 2, K, B, r, hw, hk, h, hW, hn => by
    simp only [dep] at hk
    have Ia := weight_sem RO a (k - 1) (n + 1) (by omega) h.2.1 hW (by omega)
    have Ib := weight_sem RO b (k - 1) (n + 1) (by omega) h.2.2 hW (by omega)
    exact wt_plain (xs := [x]) (ps := [a, b]) (ds := [.str x, enc a, enc b]) (by simp) rfl (by simp) (fun q hq => by
      simp only [List.mem_cons, List.not_mem_nil, or_false] at hq
      rcases hq with e | e
      · rw [e]; exact Ia
      · rw [e]; exact Ib)
  | .iff a b c, k, n + 2, K, B, r, hw, hk, h, hW, hn => by
    simp only [dep] at hk
    have Ia := weight_sem RO a (k - 1) (n + 1) (by omega) h.1 hW (by omega)
    have Ib := weight_sem RO b (k - 1) (n + 1) (by omega) h.2.1 hW (by omega)
    have Ic := weight_sem RO c (k - 1) (n + 1) (by omega) h.2.2 hW (by omega)
    exact wt_plain (xs := []) (ps := [a, b, c]) (ds := [enc a, enc b, enc c]) (by simp) rfl (by simp) (fun q hq => by
      simp only [List.mem_cons, List.not_mem_nil, or_false] at hq
      rcases hq with e | e | e
      · rw [e]; exact Ia
      · rw [e]; exact Ib
      · rw [e]; exact Ic)
  | .two w a b, k, n + 2, K, B, r, hw, hk, h, hW, hn => by
    simp only [dep] at hk
    have Ia := weight_sem RO a (k - 1) (n + 1) (by omega) h.1 hW (by omega)
    have Ib := weight_sem RO b (k - 1) (n + 1) (by omega) h.2 hW (by omega)
    have hp : ∀ q ∈ [a, b], PurR B (csem (n + 1) .f__law_weight [encRs rules, enc q, .ref r]) (.int (wt rw' hw q)) := fun q hq => by
      simp only [List.mem_cons, List.not_mem_nil, or_false] at hq
      rcases hq with e | e
      · rw [e]; exact Ia
      · rw [e]; exact Ib
    cases w with
    | lop => exact wt_lop Ia Ib
    | thn => exact wt_plain (xs := []) (ps := [a, b]) (ds := [enc a, enc b]) (by simp [Two.w]) rfl (by simp) hp
    | add => exact wt_plain (xs := []) (ps := [a, b]) (ds := [enc a, enc b]) (by simp [Two.w]) rfl (by simp) hp
    | les => exact wt_plain (xs := []) (ps := [a, b]) (ds := [enc a, enc b]) (by simp [Two.w]) rfl (by simp) hp
  | .call i ps hs, k, n + 2, K, B, r, hw, hk, h, hW, hn => by
    simp only [dep] at hk
    have hsz := h.1
    rw [szs_take] at hsz
    have hij : i < j := by
      have := (List.getElem?_eq_some_iff.mp hsz).1
      rw [List.length_take] at this
      omega
    rw [List.getElem?_take_of_lt hij] at hsz
    obtain ⟨ru, f, e1, e2, nd, l1, l2, body⟩ := RO i hij
    have hl1 : ru.ns.length = ps.length ∧ ru.hs.length = hs.length := by
      unfold szs at hsz
      rw [List.getElem?_map, e1] at hsz
      simpa using hsz
    have := wt_call (rw' := rw') (hw := hw) (f := f) (B := B) (n := n) (r := r) e1 nd hl1.2 (by omega) (by omega) (fun q hq => weights_sem RO ps (k - 1) (n + 1) (by omega) h.2.1 hW (by omega) q hq) (fun q hq => weights_sem RO hs (k - 1) (n + 1) (by omega) h.2.2 hW (by omega) q hq)
      (fun B' ρ hW' => body B' ρ (n + 1) _ (by rw [wtL_map]; simp; omega) (by omega) hW')
    unfold wt
    simp only [e2, Option.getD_some]
    exact this
theorem weights_sem (RO : RwOk rules rw' j A) : ∀ (ds : List Deed) (k n : Nat) {K : List Str} {B : Sto} {r : Nat} {hw : Str → Int}, deps ds ≤ k → okDs (szs (rules.take j)) K ds → WEnv B r hw → k + 2 + A ≤ n → ∀ q ∈ ds, PurR B (csem n .f__law_weight [encRs rules, enc q, .ref r]) (.int (wt rw' hw q))
  | [], k, n, K, B, r, hw, _, _, _, _, q, hq => by cases hq
  | a :: ds, k, n, K, B, r, hw, hk, h, hW, hn, q, hq => by
    simp only [deps] at hk
    by_cases e : q = a
    · rw [e]
      exact weight_sem RO a k n (by omega) h.1 hW hn
    · exact weights_sem RO ds k n (by omega) h.2 hW hn q (by rcases List.mem_cons.mp hq with z | z; · exact absurd z e
                                                             · exact z)
end
end
end DL

set_option Elab.async false
set_option linter.all false
set_option maxRecDepth 100000
set_option maxHeartbeats 1000000
namespace DL
open PySem L2
theorem rw_ok {rules : List Rule} (R : RsRun rules) : ∀ j, j ≤ rules.length → RwOk rules (rwt (rules.take j)) j (4 * j)
  | 0, _ => fun i h => by omega
  | j + 1, hj => by
    intro i hi
    have il : i < rules.length := by omega
    have ih := rw_ok R i (by omega)
    have e1 : rules[i]? = some rules[i] := List.getElem?_eq_getElem il
    have o := R.ok i _ e1
    have hm := List.getElem_mem il
    have e2 := rwt_get (rules.take (j + 1)) i rules[i] (take_all e1 _ hi)
    rw [List.take_take, Nat.min_eq_left (by omega)] at e2
    refine ⟨rules[i], _, e1, e2, o.nh, (R.sz _ hm).1, (R.sz _ hm).2, fun B ρ n ws hw hn hW => ?_⟩
    exact weight_sem ih rules[i].b 2 n (R.dep _ hm) o.b hW (by omega)
structure Gb1 (a b : Stt) (w : Int) : Prop where
  m : (b.marks.length : Int) ≤ a.marks.length + w
  s : (b.spoken.length : Int) ≤ a.spoken.length + w
  c : (b.cells.length : Int) ≤ a.cells.length + w
def Gb (t : Thk) (w : Int) : Prop := ∀ st, Gb1 st (t st).2 w
theorem Gb1.trans {a b c : Stt} {v w : Int} (x : Gb1 a b v) (y : Gb1 b c w) : Gb1 a c (v + w) := ⟨by have := x.m; have := y.m; omega, by have := x.s; have := y.s; omega, by have := x.c; have := y.c; omega⟩
theorem Gb1.mono {a b : Stt} {v w : Int} (x : Gb1 a b v) (h : v ≤ w) : Gb1 a b w := ⟨by have := x.m; omega, by have := x.s; omega, by have := x.c; omega⟩
theorem Gb1.refl {a : Stt} {w : Int} (h : 0 ≤ w) : Gb1 a a w := ⟨by omega, by omega, by omega⟩
def GbE (env : Ev) (hw : Str → Int) : Prop := (∀ x, 0 ≤ hw x) ∧ ∀ x t, env x = some (.th t) → Gb t (hw x)
theorem GbE.put {env : Ev} {hw : Str → Int} {x : Str} {v : EV} (h : GbE env hw) (hv : ∀ t, v ≠ .th t) : GbE (putE x v env) hw := ⟨h.1, fun y t e => by
  unfold putE at e
  split at e
  · cases e; exact absurd rfl (hv t)
  · exact h.2 y t e⟩
theorem RsLaw.run {rs : List Rule} (R : RsLaw rs) : RsRun rs := ⟨R.r.ok, R.dep, R.r.len⟩
theorem pick_abcd (ns : List Int) (t : Int) {v : Str} {S : Sto} (hp : atI abcd (drw ns t (abcd.length : Int)) = some v) : oGet (.str "abcd") (.int (drw ns t 4)) S = .ok (.str v) S := by
  have hp' : atI abcd (drw ns t 4) = some v := hp
  have h0 := drw_lo ns t (m := 4) (by decide)
  have h1 := drw_hi ns t (m := 4) (by decide)
  generalize drw ns t 4 = j at hp' h0 h1
  have : j = 0 ∨ j = 1 ∨ j = 2 ∨ j = 3 := by omega
  rcases this with rfl | rfl | rfl | rfl <;> (cases hp'; rfl)
theorem light_sem (ns : List Int) (hl : ns.length ≤ 63) {rs : List Rule} (R : RsLaw rs) (deep n : Nat) (hd : deep ≤ 50) (hn : 2 * deep + 20 ≤ n) (t : Int) (ht : 0 ≤ t) :
    ∃ d, Pur (csem n .f__law_light [scr ns, .int t, .int deep, encRs rs]) (enc d) ∧ okD (szs rs) [] d ∧ dep d ≤ deep ∧ wt (rwt rs) (fun _ => 1) d ≤ 80 := by
  obtain ⟨n, rfl⟩ : ∃ j, n = j + 4 := ⟨n - 4, by omega⟩
  obtain ⟨d, hds, hdo, hdd⟩ := deed_sem ns hl R.r deep (n + 3) t [] [] [] (by omega) ht kn_nil (by simp; omega) (by simp; omega)
  have hdo' : okD (szs rs) [] d := hdo
  have RO := rw_ok R.run rs.length (Nat.le_refl _)
  rw [List.take_length] at RO
  have hW : ∀ S : Sto, PurR [] (fun S => csem (n + 3) .f__law_weight [encRs rs, enc d, .ref S.length] (S ++ [.dct []])) (.int 0) ∨ True := fun _ => .inr trivial
  have wS : ∀ S, ∃ E, dCall 3 (csem (n + 3) .f__law_weight) (dCons (dVar 3) (dCons (dVar 4) (dCons dNewK dNil))) [some (scr ns), some (.int t), some (.int deep), some (encRs rs), some (enc d)] S = .ok (.int (wt (rwt rs) (fun _ => 1) d)) (S ++ E) := fun S => by
    have := weight_sem RO d deep (n + 3) (K := []) (B := S ++ [.dct []]) (r := S.length) (hw := fun _ => 1) hdd (by rw [List.take_length]; exact hdo') ⟨[], by simp, fun x => rfl⟩ (by have := R.len; omega) (S ++ [.dct []]) (List.prefix_refl _)
    obtain ⟨E, e⟩ := this
    refine ⟨[.dct []] ++ E, ?_⟩
    refine eCall (eCons (eZ zV) (eCons (eZ zV) (eCons (rfl : dNewK _ S = .ok (.ref S.length) (S ++ [.dct []])) eNil))) ?_
    rw [e]
    simp
  by_cases hc : wt (rwt rs) (fun _ => 1) d ≤ 80
  · refine ⟨d, ?_, hdo', hdd, hc⟩
    rw [cs_f__law_light]
    refine pur_run ?_
    unfold b_f__law_light
    refine pLet (pCall (pK pV (pK pV (pK pV (pK (pT (pK (pT pN) (pK (pT pN) (pK (pT pN) pN)))) (pK pV pN))))) hds) (fun _ => rfl) ?_
    refine pSkip (pB (pO (fun S _ => wS S) pC fun S => ?_)) (pRet pV)
    rw [x_gtI]
    congr 2
    simp
    omega
  · obtain ⟨v, hv, hp⟩ := drw_pick ns t (l := abcd) (by simp [abcd])
    refine ⟨.rd v, ?_, .inr hv, Nat.zero_le _, by simp [wt]⟩
    rw [cs_f__law_light]
    refine pur_run ?_
    unfold b_f__law_light
    refine pLet (pCall (pK pV (pK pV (pK pV (pK (pT (pK (pT pN) (pK (pT pN) (pK (pT pN) pN)))) (pK pV pN))))) hds) (fun _ => rfl) ?_
    refine pTake (pB (pO (fun S _ => wS S) pC fun S => ?_)) (pRet (pT (pK pC (pK ?_ pN))))
    · rw [x_gtI]
      congr 2
      simp
      omega
    · refine pO pC (pDrawn hl ht (by decide) pV pV pC) fun S => ?_
      exact pick_abcd ns t hp
end DL

set_option Elab.async false
set_option linter.all false
set_option maxRecDepth 100000
set_option maxHeartbeats 1000000
namespace DL
open PySem L2
def In (v : Int) : Prop := 0 ≤ v ∧ v ≤ 1008
end DL

set_option Elab.async false
set_option linter.all false
set_option maxRecDepth 100000
set_option maxHeartbeats 1000000
namespace DL
open PySem L2
section
end
end DL

set_option Elab.async false
set_option linter.all false
set_option maxRecDepth 100000
set_option maxHeartbeats 1000000
namespace DL
open PySem L2
structure Clo (P : Thk → Prop) : Prop where
  ret : ∀ v : Int, P fun st => (v, st)
  bind : ∀ (t : Thk) (k : Int → Thk), P t → (∀ v, P (k v)) → P fun st => k (t st).1 (t st).2
  ask : P tAskd
  read : ∀ x, P (tRead x)
  wrt : ∀ x v, P (tWrt x v)
  say : ∀ v, P (tSayd v)
  cell : ∀ i : Nat, P fun st => ((st.cells[i]?).getD 0, st)
  setC : ∀ (i : Nat) (v : Int), P fun st => (v, st.setC i v)
  push : ∀ (v : Int) (k : Nat → Thk), (∀ i, P (k i)) → P fun st => k st.cells.length (st.push v)
def CloE (P : Thk → Prop) (env : Ev) : Prop := ∀ x t, env x = some (.th t) → P t
section
variable {P : Thk → Prop}
theorem CloE.put {env : Ev} {x : Str} {v : EV} (h : CloE P env) (hv : ∀ t, v ≠ .th t) : CloE P (putE x v env) := fun y t e => by
  unfold putE at e
  split at e
  · cases e; exact absurd rfl (hv t)
  · exact h y t e
theorem Clo.iter (C : Clo P) {t : Thk} (h : P t) : ∀ n : Nat, P fun st => (0, iterT t n st)
  | 0 => C.ret 0
  | n + 1 => C.bind t (fun _ => fun st => (0, iterT t n st)) h fun _ => C.iter h n
end
end DL

set_option Elab.async false
set_option linter.all false
set_option maxRecDepth 100000
set_option maxHeartbeats 1000000
namespace DL
open PySem L2
def aw (A : List Int) (k : Nat) : Int := (A[k]?).getD 0
def isAsk : D → Option Int
  | .tup [.str w, .int v] => if w = "ask" then some v else none
  | _ => none
def asksOf (ms : List D) : List Int := ms.filterMap isAsk
structure Asks (a b : Stt) : Prop where
  q : b.asked = a.asked
  m : a.many ≤ b.many
  l : asksOf b.marks = asksOf a.marks ++ (List.range' a.many (b.many - a.many)).map (aw a.asked)
theorem Asks.refl {a : Stt} : Asks a a := ⟨rfl, Nat.le_refl _, by simp⟩
theorem Asks.same {a b : Stt} (hq : b.asked = a.asked) (hm : b.many = a.many) (hl : asksOf b.marks = asksOf a.marks) : Asks a b := ⟨hq, by rw [hm]; exact Nat.le_refl _, by rw [hl, hm]; simp⟩
theorem Asks.trans {a b c : Stt} (x : Asks a b) (y : Asks b c) : Asks a c := by
  refine ⟨y.q.trans x.q, Nat.le_trans x.m y.m, ?_⟩
  rw [y.l, x.l, x.q, List.append_assoc, ← List.map_append]
  congr 2
  have h1 := x.m
  have h2 := y.m
  have e : c.many - a.many = (b.many - a.many) + (c.many - b.many) := by omega
  rw [e, ← List.range'_append_1]
  congr 2
  omega
end DL

set_option Elab.async false
set_option linter.all false
set_option maxRecDepth 100000
set_option maxHeartbeats 1000000
namespace DL
open PySem L2
structure Wd where
  w : Nat
  kept : Nat
  spoken : Nat
  marks : Nat
  asked : Nat
def Wd.mut (W : Wd) : List Nat := [W.w, W.kept, W.spoken, W.marks]
def wdF (W : Wd) (many : Nat) : List (Str × D) := [("kept", .ref W.kept), ("asked", .ref W.asked), ("many", .int many), ("spoken", .ref W.spoken), ("marks", .ref W.marks)]
structure WRep (W : Wd) (S : Sto) (st : Stt) : Prop where
  w : S[W.w]? = some (.ins "World" (wdF W st.many))
  kept : S[W.kept]? = some (.dct (keptD st.kept))
  spoken : S[W.spoken]? = some (.lst (st.spoken.map .int))
  marks : S[W.marks]? = some (.lst st.marks)
  asked : S[W.asked]? = some (.lst (st.asked.map .int))
structure WFrm (W : Wd) (S S' : Sto) : Prop where
  len : S.length ≤ S'.length
  keep : ∀ n o, n ∉ W.mut → S[n]? = some o → S'[n]? = some o
theorem WFrm.refl {W : Wd} {S : Sto} : WFrm W S S := ⟨Nat.le_refl _, fun _ _ _ h => h⟩
theorem WFrm.trans {W : Wd} {S S' S'' : Sto} (a : WFrm W S S') (b : WFrm W S' S'') : WFrm W S S'' := ⟨Nat.le_trans a.len b.len, fun n o h e => b.keep n o h (a.keep n o h e)⟩
theorem WFrm.app {W : Wd} {S E : Sto} : WFrm W S (S ++ E) := ⟨by simp, fun n o _ e => pre_get (List.prefix_append _ _) e⟩
theorem WRep.app {W : Wd} {S : Sto} {st : Stt} (R : WRep W S st) (E : Sto) : WRep W (S ++ E) st := by
  have g : ∀ {n o}, S[n]? = some o → (S ++ E)[n]? = some o := fun {n o} e => pre_get (List.prefix_append _ _) e
  exact ⟨g R.w, g R.kept, g R.spoken, g R.marks, g R.asked⟩
theorem WRep.lt {W : Wd} {S : Sto} {st : Stt} (R : WRep W S st) : (∀ k ∈ W.mut, k < S.length) ∧ W.asked < S.length := by
  refine ⟨fun k h => ?_, (List.getElem?_eq_some_iff.mp R.asked).1⟩
  simp only [Wd.mut, List.mem_cons, List.not_mem_nil, or_false] at h
  rcases h with rfl | rfl | rfl | rfl
  · exact (List.getElem?_eq_some_iff.mp R.w).1
  · exact (List.getElem?_eq_some_iff.mp R.kept).1
  · exact (List.getElem?_eq_some_iff.mp R.spoken).1
  · exact (List.getElem?_eq_some_iff.mp R.marks).1
def Stt.fresh (s : Stt) : Stt := ⟨s.kept, s.asked, s.many, s.spoken, s.marks, []⟩
end DL

set_option Elab.async false
set_option linter.all false
set_option maxRecDepth 100000
set_option maxHeartbeats 1000000
namespace DL
open PySem L2
end DL

set_option Elab.async false
set_option linter.all false
set_option maxRecDepth 100000
set_option maxHeartbeats 300000
namespace DL
open PySem L2
end DL

set_option Elab.async false
set_option linter.all false
set_option maxRecDepth 100000
set_option maxHeartbeats 1000000
namespace DL
open PySem L2
def RefL (B : Sto) (a : Den) (ε : Env) (ds : List D) : Prop := ∀ S, B <+: S → ∃ E k, a ε S = .ok (.ref k) (S ++ E) ∧ (S ++ E)[k]? = some (.lst ds)
section
variable {B : Sto} {a b c : Den} {ε : Env} {ds es : List D} {g : GDen} {w : SDen} {fl : Fl}
theorem PurL.ref (h : PurL B a ε ds) : RefL B a ε ds := fun S hS => by
  obtain ⟨E, e⟩ := h S hS
  exact ⟨E ++ [.lst ds], _, by rw [e, List.append_assoc], by rw [← List.append_assoc]; exact getLast_app⟩
end
end DL

set_option Elab.async false
set_option linter.all false
set_option maxRecDepth 100000
set_option maxHeartbeats 1000000
namespace DL
open PySem L2
section
end
end DL

set_option Elab.async false
set_option linter.all false
set_option maxRecDepth 100000
set_option maxHeartbeats 1000000
namespace DL
open PySem L2
structure CloS (P : Thk → Prop) : Prop where
  ret : ∀ v : Int, P fun st => (v, st)
  bind : ∀ (t : Thk) (k : Int → Thk), P t → (∀ v, P (k v)) → P fun st => k (t st).1 (t st).2
  ask : P tAskd
  read : ∀ x ∈ abcd, P (tRead x)
  wrt : ∀ x ∈ abcd, ∀ v, P (tWrt x v)
  say : ∀ v, P (tSayd v)
  cell : ∀ i : Nat, P fun st => ((st.cells[i]?).getD 0, st)
  setC : ∀ (i : Nat) (v : Int), P fun st => (v, st.setC i v)
  push : ∀ (v : Int) (k : Nat → Thk), (∀ i, P (k i)) → P fun st => k st.cells.length (st.push v)
section
variable {P : Thk → Prop}
theorem CloS.iter (C : CloS P) {t : Thk} (h : P t) : ∀ n : Nat, P fun st => (0, iterT t n st)
  | 0 => C.ret 0
  | n + 1 => C.bind t (fun _ => fun st => (0, iterT t n st)) h fun _ => C.iter h n
end
end DL

set_option Elab.async false
set_option linter.all false
set_option maxRecDepth 100000
set_option maxHeartbeats 1000000
namespace DL
open PySem L2
def RsPre (rs rs' : List RS) : Prop := ∀ (i : Nat) (f : RS), rs[i]? = some f → rs'[i]? = some f
mutual
theorem den_pre {rs rs' : List RS} (hp : RsPre rs rs') {sz : List (Nat × Nat)} (hz : sz.length ≤ rs.length) : ∀ (d : Deed) (K : List Str) (env : Ev), okD sz K d → den rs d env = den rs' d env
  | .num i, K, env, h => by simp only [den]
  | .nam x, K, env, h => by simp only [den]
  | .dod x, K, env, h => by simp only [den]
  | .ask, K, env, h => by simp only [den]
  | .rd x, K, env, h => by simp only [den]
  | .wr x a, K, env, h => by simp only [den, den_pre hp hz a K env h.2]
  | .say a, K, env, h => by simp only [den, den_pre hp hz a K env h]
  | .lt x a b, K, env, h => by
    funext st
    simp only [den, den_pre hp hz a K env h.2.1]
    rw [den_pre hp hz b (x :: K) _ h.2.2]
  | .own x a b, K, env, h => by
    funext st
    simp only [den, den_pre hp hz a K env h.2.1]
    rw [den_pre hp hz b (x :: K) _ h.2.2]
  | .iff a b c, K, env, h => by simp only [den, den_pre hp hz a K env h.1, den_pre hp hz b K env h.2.1, den_pre hp hz c K env h.2.2]
  | .two .thn a b, K, env, h => by simp only [den, den_pre hp hz a K env h.1, den_pre hp hz b K env h.2]
  | .two .add a b, K, env, h => by simp only [den, den_pre hp hz a K env h.1, den_pre hp hz b K env h.2]
  | .two .les a b, K, env, h => by simp only [den, den_pre hp hz a K env h.1, den_pre hp hz b K env h.2]
  | .two .lop a b, K, env, h => by simp only [den, den_pre hp hz a K env h.1, den_pre hp hz b K env h.2]
  | .call i ps hs, K, env, h => by
    have hi : i < rs.length := Nat.lt_of_lt_of_le (List.getElem?_eq_some_iff.mp h.1).1 hz
    have e1 := List.getElem?_eq_getElem hi
    have e2 := hp i _ e1
    funext st
    simp only [den, e1, e2, denL_pre hp hz ps K env h.2.1, denT_pre hp hz hs K env h.2.2]
theorem denL_pre {rs rs' : List RS} (hp : RsPre rs rs') {sz : List (Nat × Nat)} (hz : sz.length ≤ rs.length) : ∀ (d : List Deed) (K : List Str) (env : Ev), okDs sz K d → denL rs d env = denL rs' d env
  | [], K, env, h => rfl
  | d :: ds, K, env, h => by
    funext st
    simp only [denL, den_pre hp hz d K env h.1, denL_pre hp hz ds K env h.2]
theorem denT_pre {rs rs' : List RS} (hp : RsPre rs rs') {sz : List (Nat × Nat)} (hz : sz.length ≤ rs.length) : ∀ (d : List Deed) (K : List Str) (env : Ev), okDs sz K d → denT rs d env = denT rs' d env
  | [], K, env, h => rfl
  | d :: ds, K, env, h => by
    simp only [denT, den_pre hp hz d K env h.1, denT_pre hp hz ds K env h.2]
end
theorem rsem_pre (l m : List Rule) : RsPre (rsem l) (rsem (l ++ m)) := fun i f h => by
  have hi : i < l.length := by have := (List.getElem?_eq_some_iff.mp h).1; rw [rsem_len] at this; exact this
  have e := List.getElem?_eq_getElem hi
  rw [rsem_get l i _ e] at h
  have e2 : (l ++ m)[i]? = some l[i] := by rw [List.getElem?_append_left hi]; exact e
  rw [rsem_get (l ++ m) i _ e2, ← h, List.take_append_of_le_length (Nat.le_of_lt hi)]
theorem den_more {l m : List Rule} {d : Deed} {K : List Str} (h : okD (szs l) K d) (env : Ev) : den (rsem (l ++ m)) d env = den (rsem l) d env :=
  (den_pre (rsem_pre l m) (by simp [szs, rsem_len]) d K env h).symm
mutual
def noCall : Deed → Bool
  | .num _ => true | .nam _ => true | .dod _ => true | .ask => true | .rd _ => true
  | .wr _ a => noCall a
  | .say a => noCall a
  | .lt _ a b => noCall a && noCall b
  | .own _ a b => noCall a && noCall b
  | .iff a b c => noCall a && noCall b && noCall c
  | .two _ a b => noCall a && noCall b
  | .call _ _ _ => false
end
theorem okD_noCall {sz : List (Nat × Nat)} : ∀ (d : Deed) (K : List Str), noCall d = true → okD sz K d → okD [] K d
  | .num i, K, _, h => h
  | .nam x, K, _, h => h
  | .dod x, K, _, h => h
  | .ask, K, _, h => h
  | .rd x, K, _, h => h
  | .wr x a, K, n, h => ⟨h.1, okD_noCall a K n h.2⟩
  | .say a, K, n, h => okD_noCall a K n h
  | .lt x a b, K, n, h => by
    simp only [noCall, Bool.and_eq_true] at n
    exact ⟨h.1, okD_noCall a K n.1 h.2.1, okD_noCall b _ n.2 h.2.2⟩
  | .own x a b, K, n, h => by
    simp only [noCall, Bool.and_eq_true] at n
    exact ⟨h.1, okD_noCall a K n.1 h.2.1, okD_noCall b _ n.2 h.2.2⟩
  | .iff a b c, K, n, h => by
    simp only [noCall, Bool.and_eq_true] at n
    exact ⟨okD_noCall a K n.1.1 h.1, okD_noCall b _ n.1.2 h.2.1, okD_noCall c _ n.2 h.2.2⟩
  | .two w a b, K, n, h => by
    simp only [noCall, Bool.and_eq_true] at n
    exact ⟨okD_noCall a K n.1 h.1, okD_noCall b _ n.2 h.2⟩
  | .call i ps hs, K, n, _ => by cases n
def RlJ (rules : List Rule) (j A : Nat) : Prop := ∀ (L : Pl), Apart L → L.rules = encRs rules → RulOk L rules (rsem (rules.take j)) j A
theorem RlJ.zero (rules : List Rule) (A : Nat) : RlJ rules 0 A := fun L ap hL i h => by omega
theorem RlJ.next {rules : List Rule} {j A A' k : Nat} {r : Rule} (h : RlJ rules j A) (e : rules[j]? = some r) (o : okRl (szs (rules.take j)) r) (hn : r.ns.length ≤ 100) (hh : r.hs.length ≤ 100) (hk : dep r.b ≤ k) (hk2 : k ≤ 800) (ha : A ≤ A')
    (hA : (noCall r.b = true ∧ 5 + k * 2 ≤ A') ∨ 5 + k * (A + 2) ≤ A') : RlJ rules (j + 1) A' := fun L ap hL i hi => by
  have jl : j < rules.length := (List.getElem?_eq_some_iff.mp e).1
  by_cases q : i = j
  · subst q
    have e2 := rsem_get (rules.take (i + 1)) i r (take_all e _ (Nat.lt_succ_self _))
    rw [List.take_take, Nat.min_eq_left (by omega)] at e2
    refine ⟨r, _, e, e2, kd_apart o, o.n, o.h, hn, hh, fun S c ρ m ws ts hw ht E gt => ?_⟩
    rcases hA with ⟨nc, hA⟩ | hA
    · have o0 := okD_noCall _ _ nc o.b
      have ed : den (rsem (rules.take i)) r.b (callE r ws ts) = den (rsem []) r.b (callE r ws ts) := by
        have := den_more (l := []) (m := rules.take i) (d := r.b) (K := r.ns ++ r.hs) o0 (callE r ws ts)
        exact this
      simp only [ed]
      have := den_impl (rs := rsem []) (j := 0) (A := 0) ap hL (fun i h => by omega) (rsem_grow _) r.b k hk (by rw [List.take_zero]; exact o0) E (by omega) (callE_grow gt)
      exact this.up Frm.refl (Nat.le_refl _) (by omega)
    · have := den_impl ap hL (h L ap hL) (rsem_grow _) r.b k hk (by simpa using o.b) E (by omega) (callE_grow gt)
      exact this.up Frm.refl (Nat.le_refl _) (by omega)
  · obtain ⟨r', f, a1, a2, a3, a4, a5, a6, a7, a8⟩ := h L ap hL i (by omega)
    have il : i < rules.length := by omega
    have e2 : (rsem (rules.take (j + 1)))[i]? = some f := by
      have := rsem_pre (rules.take j) [r] i f a2
      have tk : rules.take (j + 1) = rules.take j ++ [r] := by rw [List.take_succ, e]; rfl
      rw [tk]
      exact this
    exact ⟨r', f, a1, e2, a3, a4, a5, a6, a7, fun S c ρ m ws ts hw ht E gt => (a8 S c ρ m ws ts hw ht E gt).up Frm.refl (Nat.le_refl _) (by omega)⟩
end DL

set_option Elab.async false
set_option linter.all false
set_option maxRecDepth 100000
set_option maxHeartbeats 1000000
namespace DL
open PySem L2
def Stt.pre (c0 : List Int) (s : Stt) : Stt := ⟨s.kept, s.asked, s.many, s.spoken, s.marks, c0 ++ s.cells⟩
def PreC (c0 : List Int) (t t' : Thk) : Prop := ∀ st, t' (st.pre c0) = ((t st).1, (t st).2.pre c0)
inductive EvRel (c0 : List Int) : Option EV → Option EV → Prop
  | non : EvRel c0 none none
  | int (v : Int) : EvRel c0 (some (.int v)) (some (.int v))
  | cell (i : Nat) : EvRel c0 (some (.cell i)) (some (.cell (c0.length + i)))
  | th {t t' : Thk} : PreC c0 t t' → EvRel c0 (some (.th t)) (some (.th t'))
structure EnvRel (c0 : List Int) (K : List Str) (env env' : Ev) : Prop where
  k : ∀ x ∈ K, EvRel c0 (env x) (env' x)
  a : ∀ x ∈ abcd, env x = none ∧ env' x = none
theorem kd0_abcd : ∀ x ∈ abcd, kd x = 0 := by decide +kernel
theorem EnvRel.put {c0 : List Int} {K : List Str} {env env' : Ev} (h : EnvRel c0 K env env') {x : Str} (hx : kd x ≠ 0) {v v' : EV} (r : EvRel c0 (some v) (some v')) : EnvRel c0 (x :: K) (putE x v env) (putE x v' env') := by
  refine ⟨fun y hy => ?_, fun y hy => ?_⟩
  · unfold putE
    by_cases q : y = x
    · rw [if_pos q, if_pos q]; exact r
    · rw [if_neg q, if_neg q]
      rcases List.mem_cons.mp hy with z | z
      · exact absurd z q
      · exact h.k y z
  · have ne : ¬ y = x := fun q => hx (q ▸ kd0_abcd y hy)
    unfold putE
    rw [if_neg ne, if_neg ne]
    exact h.a y hy
section
variable {c0 : List Int}
theorem PreC.iter {t t' : Thk} (h : PreC c0 t t') : ∀ (n : Nat) (st : Stt), iterT t' n (st.pre c0) = (iterT t n st).pre c0
  | 0, st => rfl
  | n + 1, st => by
    unfold iterT
    rw [h st]
    exact PreC.iter h n _
theorem okRl.abcd {sz : List (Nat × Nat)} {r : Rule} (o : okRl sz r) : ∀ x ∈ abcd, x ∉ r.ns ++ r.hs := fun x hx q => by
  have := kd0_abcd x hx
  rcases List.mem_append.mp q with q | q
  · have := o.n x q; omega
  · have := o.h x q; omega
end
end DL

set_option Elab.async false
set_option linter.all false
set_option maxRecDepth 100000
set_option maxHeartbeats 1000000
namespace DL
open PySem L2
inductive T where
  | non | bl (b : Bool) | int (i : Int) | str (s : Str) | tup (ts : List T) | seq (ts : List T) | lst (ts : List T) | dct (kvs : List (Key × T))
mutual
inductive Rd (Φ : Nat → Prop) (S : Sto) : D → T → Prop
  | non : Rd Φ S .non .non
  | bl (b : Bool) : Rd Φ S (.bl b) (.bl b)
  | int (i : Int) : Rd Φ S (.int i) (.int i)
  | str (x : Str) : Rd Φ S (.str x) (.str x)
  | tup {ds : List D} {ts : List T} : Rds Φ S ds ts → Rd Φ S (.tup ds) (.tup ts)
  | seq {ds : List D} {ts : List T} : Rds Φ S ds ts → Rd Φ S (.seq ds) (.seq ts)
  | lst {n : Nat} {ds : List D} {ts : List T} : ¬ Φ n → S[n]? = some (.lst ds) → Rds Φ S ds ts → Rd Φ S (.ref n) (.lst ts)
  | dct {n : Nat} {ds : List (Key × D)} {ts : List (Key × T)} : ¬ Φ n → S[n]? = some (.dct ds) → Rdk Φ S ds ts → Rd Φ S (.ref n) (.dct ts)
inductive Rds (Φ : Nat → Prop) (S : Sto) : List D → List T → Prop
  | nil : Rds Φ S [] []
  | cons {d : D} {ds : List D} {t : T} {ts : List T} : Rd Φ S d t → Rds Φ S ds ts → Rds Φ S (d :: ds) (t :: ts)
inductive Rdk (Φ : Nat → Prop) (S : Sto) : List (Key × D) → List (Key × T) → Prop
  | nil : Rdk Φ S [] []
  | cons {k : Key} {d : D} {ds : List (Key × D)} {t : T} {ts : List (Key × T)} : Rd Φ S d t → Rdk Φ S ds ts → Rdk Φ S ((k, d) :: ds) ((k, t) :: ts)
end
section
variable {Φ Ψ : Nat → Prop} {S S' : Sto}
mutual
theorem Rd.keep (hΦ : ∀ n, n < S.length → Ψ n → Φ n) (hS : ∀ (n : Nat) (o : O), ¬ Φ n → S[n]? = some o → S'[n]? = some o) : ∀ {d : D} {t : T}, Rd Φ S d t → Rd Ψ S' d t
  | _, _, .non => .non
  | _, _, .bl b => .bl b
  | _, _, .int i => .int i
  | _, _, .str x => .str x
  | _, _, .tup r => .tup (Rds.keep hΦ hS r)
  | _, _, .seq r => .seq (Rds.keep hΦ hS r)
  | _, _, .lst n e r => .lst (fun q => n (hΦ _ (List.getElem?_eq_some_iff.mp e).1 q)) (hS _ _ n e) (Rds.keep hΦ hS r)
  | _, _, .dct n e r => .dct (fun q => n (hΦ _ (List.getElem?_eq_some_iff.mp e).1 q)) (hS _ _ n e) (Rdk.keep hΦ hS r)
theorem Rds.keep (hΦ : ∀ n, n < S.length → Ψ n → Φ n) (hS : ∀ (n : Nat) (o : O), ¬ Φ n → S[n]? = some o → S'[n]? = some o) : ∀ {d : List D} {t : List T}, Rds Φ S d t → Rds Ψ S' d t
  | _, _, .nil => .nil
  | _, _, .cons h t => .cons (Rd.keep hΦ hS h) (Rds.keep hΦ hS t)
theorem Rdk.keep (hΦ : ∀ n, n < S.length → Ψ n → Φ n) (hS : ∀ (n : Nat) (o : O), ¬ Φ n → S[n]? = some o → S'[n]? = some o) : ∀ {d : List (Key × D)} {t : List (Key × T)}, Rdk Φ S d t → Rdk Ψ S' d t
  | _, _, .nil => .nil
  | _, _, .cons h t => .cons (Rd.keep hΦ hS h) (Rdk.keep hΦ hS t)
end
mutual
theorem Rd.one : ∀ {d : D} {t u : T}, Rd Φ S d t → Rd Φ S d u → t = u
  | _, _, _, .non, .non => rfl
  | _, _, _, .bl b, .bl _ => rfl
  | _, _, _, .int i, .int _ => rfl
  | _, _, _, .str x, .str _ => rfl
  | _, _, _, .tup r, .tup r' => by rw [Rds.one r r']
  | _, _, _, .seq r, .seq r' => by rw [Rds.one r r']
  | _, _, _, .lst _ e r, .lst _ e' r' => by rw [e] at e'; cases e'; rw [Rds.one r r']
  | _, _, _, .lst _ e r, .dct _ e' r' => by rw [e] at e'; cases e'
  | _, _, _, .dct _ e r, .lst _ e' r' => by rw [e] at e'; cases e'
  | _, _, _, .dct _ e r, .dct _ e' r' => by rw [e] at e'; cases e'; rw [Rdk.one r r']
theorem Rds.one : ∀ {d : List D} {t u : List T}, Rds Φ S d t → Rds Φ S d u → t = u
  | _, _, _, .nil, .nil => rfl
  | _, _, _, .cons h t, .cons h' t' => by rw [Rd.one h h', Rds.one t t']
theorem Rdk.one : ∀ {d : List (Key × D)} {t u : List (Key × T)}, Rdk Φ S d t → Rdk Φ S d u → t = u
  | _, _, _, .nil, .nil => rfl
  | _, _, _, .cons h t, .cons h' t' => by rw [Rd.one h h', Rdk.one t t']
end
theorem Rd.pre (p : S <+: S') {d : D} {t : T} (h : Rd Φ S d t) : Rd Φ S' d t := h.keep (fun _ _ q => q) fun n o _ e => by
  obtain ⟨E, rfl⟩ := p
  rw [List.getElem?_append_left (List.getElem?_eq_some_iff.mp e).1]
  exact e
theorem Rds.pre (p : S <+: S') {d : List D} {t : List T} (h : Rds Φ S d t) : Rds Φ S' d t := h.keep (fun _ _ q => q) fun n o _ e => by
  obtain ⟨E, rfl⟩ := p
  rw [List.getElem?_append_left (List.getElem?_eq_some_iff.mp e).1]
  exact e
theorem Rdk.pre (p : S <+: S') {d : List (Key × D)} {t : List (Key × T)} (h : Rdk Φ S d t) : Rdk Φ S' d t := h.keep (fun _ _ q => q) fun n o _ e => by
  obtain ⟨E, rfl⟩ := p
  rw [List.getElem?_append_left (List.getElem?_eq_some_iff.mp e).1]
  exact e
theorem Rds.len : ∀ {ds : List D} {ts : List T}, Rds Φ S ds ts → ds.length = ts.length
  | _, _, .nil => rfl
  | _, _, .cons _ t => congrArg (· + 1) (Rds.len t)
theorem Rds.app : ∀ {ds es : List D} {ts us : List T}, Rds Φ S ds ts → Rds Φ S es us → Rds Φ S (ds ++ es) (ts ++ us)
  | _, _, _, _, .nil, s => s
  | _, _, _, _, .cons h t, s => .cons h (Rds.app t s)
theorem Rds.get : ∀ {ds : List D} {ts : List T} {i : Nat} {t : T}, Rds Φ S ds ts → ts[i]? = some t → ∃ d, ds[i]? = some d ∧ Rd Φ S d t
  | _, _, _, _, .nil, e => by simp at e
  | _, _, 0, _, .cons h _, e => by simp at e; subst e; exact ⟨_, rfl, h⟩
  | _, _, i + 1, d, .cons _ t, e => by
    obtain ⟨v, h1, h2⟩ := Rds.get (i := i) (t := d) t (by simpa using e)
    exact ⟨v, by simpa using h1, h2⟩
theorem Rds.take : ∀ {ds : List D} {ts : List T} (n : Nat), Rds Φ S ds ts → Rds Φ S (ds.take n) (ts.take n)
  | _, _, 0, _ => by rw [List.take_zero, List.take_zero]; exact .nil
  | _, _, _ + 1, .nil => .nil
  | _, _, n + 1, .cons h t => .cons h (Rds.take n t)
theorem Rds.drop : ∀ {ds : List D} {ts : List T} (n : Nat), Rds Φ S ds ts → Rds Φ S (ds.drop n) (ts.drop n)
  | _, _, 0, r => r
  | _, _, _ + 1, .nil => .nil
  | _, _, n + 1, .cons _ t => Rds.drop n t
theorem Rds.set {d : D} {t : T} (h : Rd Φ S d t) : ∀ {ds : List D} {ts : List T} (n : Nat), Rds Φ S ds ts → Rds Φ S (ds.set n d) (ts.set n t)
  | _, _, _, .nil => .nil
  | _, _, 0, .cons _ t => .cons h t
  | _, _, n + 1, .cons q t => .cons q (Rds.set h n t)
theorem Rds.rep {ds : List D} {ts : List T} (h : Rds Φ S ds ts) : ∀ n : Nat, Rds Φ S (List.replicate n ds).flatten (List.replicate n ts).flatten
  | 0 => .nil
  | n + 1 => by
    rw [List.replicate_succ, List.replicate_succ, List.flatten_cons, List.flatten_cons]
    exact h.app (Rds.rep h n)
theorem Rds.maps {α : Type} {f : α → D} {g : α → T} : ∀ {l : List α}, (∀ a ∈ l, Rd Φ S (f a) (g a)) → Rds Φ S (l.map f) (l.map g)
  | [], _ => .nil
  | a :: r, h => .cons (h a List.mem_cons_self) (Rds.maps fun b hb => h b (List.mem_cons_of_mem _ hb))
end
inductive RT (α : Type) where
  | ok (a : α) | exc (c : Str) | bad
def RT.bind {α β : Type} : RT α → (α → RT β) → RT β
  | .ok a, k => k a
  | .exc c, _ => .exc c
  | .bad, _ => .bad
@[simp] theorem RT.bind_ok {α β : Type} (a : α) (k : α → RT β) : (RT.ok a).bind k = k a := rfl
@[simp] theorem RT.bind_exc {α β : Type} (c : Str) (k : α → RT β) : (RT.exc c : RT α).bind k = .exc c := rfl
@[simp] theorem RT.bind_bad {α β : Type} (k : α → RT β) : (RT.bad : RT α).bind k = .bad := rfl
def Bnd (Φ : Nat → Prop) (S : Sto) : Prop := ∀ n, Φ n → n < S.length
theorem Bnd.pre {Φ : Nat → Prop} {S S' : Sto} (h : Bnd Φ S) (p : S <+: S') : Bnd Φ S' := fun n q => Nat.lt_of_lt_of_le (h n q) p.length_le
abbrev RlT (β α : Type) := (Nat → Prop) → Sto → β → α → Prop
def OkR {β α : Type} (Rl : RlT β α) (Φ : Nat → Prop) (S : Sto) (r : R β) : RT α → Prop
  | .ok t => ∃ S' d, r = .ok d S' ∧ S <+: S' ∧ Rl Φ S' d t
  | .exc c => ∃ S', r = .exc c S' ∧ S <+: S'
  | .bad => True
theorem OkR.bind {β α β' α' : Type} {Rl : RlT β α} {Rl' : RlT β' α'} {Φ : Nat → Prop} {S : Sto} {r : R β} {q : RT α} {k : β → Sto → R β'} {κ : α → RT α'} (h : OkR Rl Φ S r q) (hk : ∀ S' d t, S <+: S' → Rl Φ S' d t → OkR Rl' Φ S' (k d S') (κ t)) :
    OkR Rl' Φ S (r.bind k) (q.bind κ) := by
  cases q with
  | ok t =>
    obtain ⟨S', d, rfl, p, rl⟩ := h
    have := hk S' d t p rl
    simp only [R.bind_ok, RT.bind_ok]
    cases e : κ t with
    | ok u => rw [e] at this; obtain ⟨S2, d2, e2, p2, r2⟩ := this; exact ⟨S2, d2, e2, p.trans p2, r2⟩
    | exc c => rw [e] at this; obtain ⟨S2, e2, p2⟩ := this; exact ⟨S2, e2, p.trans p2⟩
    | bad => trivial
  | exc c => obtain ⟨S', rfl, p⟩ := h; exact ⟨S', rfl, p⟩
  | bad => trivial
theorem OkR.up {β α : Type} {Rl : RlT β α} {Φ : Nat → Prop} {S S' : Sto} {r : R β} {q : RT α} (p : S <+: S') (h : OkR Rl Φ S' r q) : OkR Rl Φ S r q := by
  cases q with
  | ok t => obtain ⟨S2, d2, e2, p2, r2⟩ := h; exact ⟨S2, d2, e2, p.trans p2, r2⟩
  | exc c => obtain ⟨S2, e2, p2⟩ := h; exact ⟨S2, e2, p.trans p2⟩
  | bad => trivial
theorem OkR.here {β α : Type} {Rl : RlT β α} {Φ : Nat → Prop} {S : Sto} {d : β} {t : α} (h : Rl Φ S d t) : OkR Rl Φ S (.ok d S) (.ok t) := ⟨S, d, rfl, List.prefix_rfl, h⟩
theorem OkR.newL {Φ : Nat → Prop} {S : Sto} {ds : List D} {ts : List T} (hb : Bnd Φ S) (h : Rds Φ S ds ts) : OkR Rd Φ S (.ok (.ref S.length) (S ++ [.lst ds])) (.ok (.lst ts)) :=
  ⟨_, _, rfl, List.prefix_append _ _, .lst (fun q => Nat.lt_irrefl _ (hb _ q)) (by simp) (h.pre (List.prefix_append _ _))⟩
abbrev TEnv := List (Option T)
structure EnvR (Φ : Nat → Prop) (j : Option Nat) (S : Sto) (ε : Env) (τ : TEnv) : Prop where
  len : ε.length = τ.length
  at_ : ∀ (i : Nat) (t : T), j ≠ some i → τ[i]? = some (some t) → ∃ d, ε[i]? = some (some d) ∧ Rd Φ S d t
theorem EnvR.keep {Φ Ψ : Nat → Prop} {j : Option Nat} {S S' : Sto} {ε : Env} {τ : TEnv} (h : EnvR Φ j S ε τ) (hΦ : ∀ n, n < S.length → Ψ n → Φ n) (hS : ∀ (n : Nat) (o : O), ¬ Φ n → S[n]? = some o → S'[n]? = some o) : EnvR Ψ j S' ε τ :=
  ⟨h.len, fun i t n e => let ⟨d, h1, h2⟩ := h.at_ i t n e; ⟨d, h1, h2.keep hΦ hS⟩⟩
theorem EnvR.pre {Φ : Nat → Prop} {j : Option Nat} {S S' : Sto} {ε : Env} {τ : TEnv} (h : EnvR Φ j S ε τ) (p : S <+: S') : EnvR Φ j S' ε τ :=
  ⟨h.len, fun i t n e => let ⟨d, h1, h2⟩ := h.at_ i t n e; ⟨d, h1, h2.pre p⟩⟩
theorem EnvR.set {Φ : Nat → Prop} {j : Option Nat} {S : Sto} {ε : Env} {τ : TEnv} (h : EnvR Φ j S ε τ) (k : Nat) {d : D} {t : T} (r : Rd Φ S d t) : EnvR Φ j S (ε.set k (some d)) (τ.set k (some t)) := by
  refine ⟨by rw [List.length_set, List.length_set]; exact h.len, fun i u n e => ?_⟩
  by_cases q : i = k
  · subst q
    have hl : i < τ.length := by have := (List.getElem?_eq_some_iff.mp e).1; simpa using this
    rw [List.getElem?_set_self (by simpa using hl)] at e
    cases e
    exact ⟨d, by rw [List.getElem?_set_self (by rw [h.len]; simpa using hl)], r⟩
  · rw [List.getElem?_set_ne (Ne.symm q)] at e
    obtain ⟨d', h1, h2⟩ := h.at_ i u n e
    exact ⟨d', by rw [List.getElem?_set_ne (Ne.symm q)]; exact h1, h2⟩
theorem EnvR.off {Φ : Nat → Prop} {j : Option Nat} {S : Sto} {ε : Env} {τ : TEnv} (h : EnvR Φ j S ε τ) (k : Nat) : EnvR Φ j S (ε.set k none) (τ.set k none) := by
  refine ⟨by rw [List.length_set, List.length_set]; exact h.len, fun i u n e => ?_⟩
  by_cases q : i = k
  · subst q
    have hl : i < τ.length := by have := (List.getElem?_eq_some_iff.mp e).1; simpa using this
    rw [List.getElem?_set_self (by simpa using hl)] at e
    cases e
  · rw [List.getElem?_set_ne (Ne.symm q)] at e
    obtain ⟨d', h1, h2⟩ := h.at_ i u n e
    exact ⟨d', by rw [List.getElem?_set_ne (Ne.symm q)]; exact h1, h2⟩
def twipe (τ : TEnv) : List Nat → TEnv
  | [] => τ
  | v :: vs => (twipe τ vs).set v none
theorem EnvR.wipe {Φ : Nat → Prop} {j : Option Nat} {S : Sto} {ε : Env} {τ : TEnv} (h : EnvR Φ j S ε τ) : ∀ vs : List Nat, EnvR Φ j S (wipeE ε vs) (twipe τ vs)
  | [] => h
  | v :: vs => (EnvR.wipe h vs).off v
def Snd {β α : Type} (Rl : RlT β α) (j : Option Nat) (a : Env → Sto → R β) (q : TEnv → RT α) : Prop := ∀ Φ S ε τ, EnvR Φ j S ε τ → Bnd Φ S → OkR Rl Φ S (a ε S) (q τ)
def rqB {β : Type} : RlT β β := fun _ _ d t => d = t
abbrev TDen := TEnv → RT T
abbrev TDenB := TEnv → RT Bool
abbrev TDenA := TEnv → RT (List T)
abbrev TDenO := TEnv → RT (Option Int)
abbrev SndE (j : Option Nat) (a : Den) (q : TDen) : Prop := Snd Rd j a q
abbrev SndB (j : Option Nat) (a : DenB) (q : TDenB) : Prop := Snd rqB j a q
abbrev SndA (j : Option Nat) (a : DenA) (q : TDenA) : Prop := Snd Rds j a q
abbrev SndO (j : Option Nat) (a : DenO) (q : TDenO) : Prop := Snd rqB j a q
theorem Snd.bind {β α β' α' : Type} {Rl : RlT β α} {Rl' : RlT β' α'} {j : Option Nat} {a : Env → Sto → R β} {q : TEnv → RT α} {k : Env → β → Sto → R β'} {κ : TEnv → α → RT α'} (h : Snd Rl j a q)
    (hk : ∀ Φ S ε τ d t, EnvR Φ j S ε τ → Bnd Φ S → Rl Φ S d t → OkR Rl' Φ S (k ε d S) (κ τ t)) : Snd Rl' j (fun ε S => (a ε S).bind (k ε)) (fun τ => (q τ).bind (κ τ)) := fun Φ S ε τ er hb =>
  (h Φ S ε τ er hb).bind fun S' d t p rl => hk Φ S' ε τ d t (er.pre p) (hb.pre p) rl
def tC (t : T) : TDen := fun _ => .ok t
def tVar (i : Nat) : TDen := fun τ => match τ[i]? with
  | some (some t) => .ok t
  | _ => .bad
section
variable {j : Option Nat} {a b c : Den} {p q r : TDen} {as : DenA} {qs : TDenA}
theorem snd_int {i : Int} : SndE j (dC (.int i)) (tC (.int i)) := fun _ _ _ _ _ _ => .here (.int i)
theorem snd_bl {i : Bool} : SndE j (dC (.bl i)) (tC (.bl i)) := fun _ _ _ _ _ _ => .here (.bl i)
theorem snd_str {i : Str} : SndE j (dC (.str i)) (tC (.str i)) := fun _ _ _ _ _ _ => .here (.str i)
theorem snd_var {i : Nat} (h : j ≠ some i := by decide) : SndE j (dVar i) (tVar i) := fun Φ S ε τ er hb => by
  unfold tVar
  split
  · obtain ⟨d, h1, h2⟩ := er.at_ i _ h ‹_›
    rw [x_Var h1]
    exact .here h2
  · trivial
def tNil : TDenA := fun _ => .ok []
def tCons (p : TDen) (qs : TDenA) : TDenA := fun τ => (p τ).bind fun t => (qs τ).bind fun ts => .ok (t :: ts)
theorem snd_nil : SndA j dNil tNil := fun _ _ _ _ _ _ => .here .nil
theorem snd_cons (h : SndE j a p) (hs : SndA j as qs) : SndA j (dCons a as) (tCons p qs) := fun Φ S ε τ er hb =>
  (h Φ S ε τ er hb).bind fun S1 d t p1 r1 => (hs Φ S1 ε τ (er.pre p1) (hb.pre p1)).bind fun S2 ds ts p2 r2 => .here (.cons (Rd.pre p2 r1) r2)
def tTup (qs : TDenA) : TDen := fun τ => (qs τ).bind fun ts => if ts.length ≤ big then .ok (.tup ts) else .bad
def tLst (qs : TDenA) : TDen := fun τ => (qs τ).bind fun ts => if ts.length ≤ big then .ok (.lst ts) else .bad
theorem snd_tup (hs : SndA j as qs) : SndE j (dTup as) (tTup qs) := fun Φ S ε τ er hb =>
  (hs Φ S ε τ er hb).bind fun S1 ds ts p1 r1 => by
    unfold mkTup
    rw [r1.len]
    split
    · exact .here (.tup r1)
    · trivial
theorem snd_lst (hs : SndA j as qs) : SndE j (dLst as) (tLst qs) := fun Φ S ε τ er hb =>
  (hs Φ S ε τ er hb).bind fun S1 ds ts p1 r1 => by
    unfold mkLst
    rw [r1.len]
    split
    · exact .newL (hb.pre p1) r1
    · trivial
abbrev TOp := T → T → RT T
def OpT (o : Op) (q : TOp) : Prop := ∀ Φ S d e t u, Rd Φ S d t → Rd Φ S e u → Bnd Φ S → OkR Rd Φ S (o d e S) (q t u)
def tBin (o : TOp) (p q : TDen) : TDen := fun τ => (p τ).bind fun t => (q τ).bind fun u => o t u
theorem snd_bin {o : Op} {qo : TOp} (ho : OpT o qo) (ha : SndE j a p) (hb : SndE j b q) : SndE j (dBin o a b) (tBin qo p q) := fun Φ S ε τ er hB =>
  (ha Φ S ε τ er hB).bind fun S1 d t p1 r1 => (hb Φ S1 ε τ (er.pre p1) (hB.pre p1)).bind fun S2 e u p2 r2 => ho Φ S2 d e t u (Rd.pre p2 r1) r2 ((hB.pre p1).pre p2)
def tTest (p : TDen) : TDenB := fun τ => (p τ).bind fun t => match t with
  | .bl b => .ok b
  | _ => .bad
theorem snd_test (ha : SndE j a p) : SndB j (dTest a) (tTest p) := fun Φ S ε τ er hB => (ha Φ S ε τ er hB).bind fun S1 d t p1 r1 => by
  cases r1 <;> first | exact OkR.here rfl | trivial
def qAdd : TOp := fun t u => match t, u with
  | .int i, .int k => .ok (.int (i + k))
  | .str x, .str y => if x.length + y.length ≤ big then .ok (.str (x ++ y)) else .bad
  | .tup xs, .tup ys => if xs.length + ys.length ≤ big then .ok (.tup (xs ++ ys)) else .bad
  | .lst xs, .lst ys => if (xs ++ ys).length ≤ big then .ok (.lst (xs ++ ys)) else .bad
  | _, _ => .bad
theorem sq_add : OpT oAdd qAdd := fun Φ S d e t u r r' hB => by
  cases r <;> cases r' <;> try (first | trivial | exact OkR.here (.int _))
  · simp only [oAdd, qAdd]
    split
    · exact .here (.str _)
    · trivial
  · rename_i rs _ _ rs'
    simp only [oAdd, qAdd, rs.len, rs'.len]
    split
    · exact .here (.tup (rs.app rs'))
    · trivial
  · rename_i _ e1 rs _ _ _ _ e2 rs'
    simp only [oAdd, qAdd, e1, e2, mkLst, (rs.app rs').len]
    split
    · exact .newL hB (rs.app rs')
    · trivial
def qSub : TOp := fun t u => match t, u with
  | .int i, .int k => .ok (.int (i - k))
  | _, _ => .bad
def qMul0 : TOp := fun t u => match t, u with
  | .int i, .int j => if (-(2 ^ 64) < i ∧ i < 2 ^ 64) ∨ (-(2 ^ 64) < j ∧ j < 2 ^ 64) then .ok (.int (i * j)) else .bad
  | .tup xs, .int k => if 0 ≤ k ∧ k ≤ 1000 ∧ (xs = [] ∨ k = 1) then .ok (.tup xs) else if 2 ≤ k ∧ k ≤ 1000 ∧ xs.length ≤ 1000 then .ok (.tup (List.replicate k.toNat xs).flatten) else .bad
  | .lst xs, .int k => if -(2 ^ 63) ≤ k ∧ k < 2 ^ 63 ∧ xs.length * k.toNat ≤ big then .ok (.lst (List.replicate k.toNat xs).flatten) else .bad
  | _, _ => .bad
theorem sq_mul0 : OpT oMul qMul0 := fun Φ S d e t u r r' hB => by
  cases r <;> cases r' <;> try trivial
  · simp only [oMul, qMul0]
    split
    · exact .here (.int _)
    · trivial
  · rename_i ds ts rs k
    have hn : ds = [] ↔ ts = [] := by rw [← List.length_eq_zero_iff, ← List.length_eq_zero_iff, rs.len]
    simp only [oMul, qMul0, rs.len, hn]
    split
    · exact .here (.tup rs)
    · split
      · exact .here (.tup (rs.rep _))
      · trivial
  · rename_i _ e1 rs k
    simp only [oMul, qMul0, e1, rs.len]
    split
    · exact .newL hB (rs.rep _)
    · trivial
theorem qMul_ex : ∃ f : TOp, f = qMul0 := ⟨_, rfl⟩
noncomputable def qMul : TOp := qMul_ex.choose
theorem qMul_eq : qMul = qMul0 := qMul_ex.choose_spec
theorem sq_mul : OpT oMul qMul := qMul_eq ▸ sq_mul0
def tNeg (p : TDen) : TDen := fun τ => (p τ).bind fun d => match d with
  | .int i => .ok (.int (-i))
  | _ => .bad
theorem snd_neg (ha : SndE j a p) : SndE j (dNeg a) (tNeg p) := fun Φ S ε τ er hB => (ha Φ S ε τ er hB).bind fun S1 d t p1 r1 => by
  cases r1 <;> first | exact OkR.here (.int _) | trivial
def qInt (f : Int → Int → Bool) : TOp := fun d e => match d, e with
  | .int i, .int j => .ok (.bl (f i j))
  | _, _ => .bad
theorem sq_int {f : Int → Int → Bool} : OpT (oInt f) (qInt f) := fun Φ S d e t u r r' hB => by
  cases r <;> cases r' <;> first | trivial | exact OkR.here (.bl _)
abbrev qLt : TOp := qInt fun i j => decide (i < j)
abbrev qLe : TOp := qInt fun i j => decide (i ≤ j)
abbrev qGt : TOp := qInt fun i j => decide (j < i)
abbrev qGe : TOp := qInt fun i j => decide (j ≤ i)
def py : Nat → T → Option PyData
  | 0, _ => none
  | n + 1, d => match d with
    | .non => some .none
    | .bl b => some (.bool b)
    | .int i => some (.int i)
    | .str x => some (.str x)
    | .tup ds => (fall (py n) ds).map .tuple
    | .seq ds => (fall (py n) ds).map .list
    | .lst ds => (fall (py n) ds).map .list
    | .dct _ => none
theorem fall_py {Φ : Nat → Prop} {S : Sto} {f : D → Option PyData} {g : T → Option PyData} (h : ∀ d t, Rd Φ S d t → f d = g t) : ∀ {ds : List D} {ts : List T}, Rds Φ S ds ts → fall f ds = fall g ts
  | _, _, .nil => rfl
  | _, _, .cons a b => by
    simp only [fall, h _ _ a, fall_py h b]
theorem frz_py {Φ : Nat → Prop} {S : Sto} : ∀ (n : Nat) (d : D) (t : T), Rd Φ S d t → frz n S d = py n t
  | 0, _, _, _ => rfl
  | n + 1, d, t, r => by
    cases r with
    | non => rfl
    | bl => rfl
    | int => rfl
    | str => rfl
    | tup rs => simp only [frz, py, fall_py (frz_py n) rs]
    | seq rs => simp only [frz, py, fall_py (frz_py n) rs]
    | lst _ e rs => simp only [frz, py, e, fall_py (frz_py n) rs]
    | dct _ e rs => simp only [frz, py, e]
def sEqT : T → T → Option Bool
  | .non, .non => some true
  | .non, .int _ => some false | .int _, .non => some false | .non, .bl _ => some false | .bl _, .non => some false | .non, .str _ => some false | .str _, .non => some false
  | .int i, .int j => some (decide (i = j))
  | .bl i, .bl j => some (decide (i = j))
  | .str i, .str j => some (decide (i = j))
  | .int _, .str _ => some false | .str _, .int _ => some false | .bl _, .str _ => some false | .str _, .bl _ => some false
  | _, _ => none
def eqT (t u : T) : Option Bool := match sEqT t u with
  | some b => some b
  | none => match py deep t, py deep u with
    | some p, some q => if SeqAt.shaped p = true ∧ SeqAt.shaped q = true then some (PyData.eqv p q) else none
    | _, _ => none
theorem dEq_T {Φ : Nat → Prop} {S : Sto} {d e : D} {t u : T} (r : Rd Φ S d t) (r' : Rd Φ S e u) : dEq S d e = eqT t u := by
  have h : sEq d e = sEqT t u := by cases r <;> cases r' <;> rfl
  unfold dEq eqT
  rw [h, frz_py deep _ _ r, frz_py deep _ _ r']
  all_goals
    cases sEqT t u with
    | some b => rfl
    | none => cases py deep t <;> cases py deep u <;> rfl
def qEq : TOp := fun t u => match eqT t u with
  | some b => .ok (.bl b)
  | none => .bad
def qNe : TOp := fun t u => match eqT t u with
  | some b => .ok (.bl !b)
  | none => .bad
theorem sq_eq : OpT oEq qEq := fun Φ S d e t u r r' hB => by
  unfold oEq qEq
  rw [dEq_T r r']
  cases eqT t u with
  | some b => exact OkR.here (.bl _)
  | none => trivial
theorem sq_ne : OpT oNe qNe := fun Φ S d e t u r r' hB => by
  unfold oNe qNe
  rw [dEq_T r r']
  cases eqT t u with
  | some b => exact OkR.here (.bl _)
  | none => trivial
def itsT : T → Option (List T)
  | .tup ts => some ts
  | .seq ts => some ts
  | .lst ts => some ts
  | _ => none
theorem items_T {Φ : Nat → Prop} {S : Sto} {d : D} {t : T} (r : Rd Φ S d t) : (items S d = none ∧ itsT t = none) ∨ ∃ ds ts, items S d = some ds ∧ itsT t = some ts ∧ Rds Φ S ds ts := by
  cases r with
  | tup rs => exact .inr ⟨_, _, rfl, rfl, rs⟩
  | seq rs => exact .inr ⟨_, _, rfl, rfl, rs⟩
  | lst _ e rs => exact .inr ⟨_, _, by simp only [items, e], rfl, rs⟩
  | dct _ e rs => exact .inl ⟨by simp only [items, e], rfl⟩
  | _ => exact .inl ⟨rfl, rfl⟩
def flatT : T → Bool
  | .non => true | .bl _ => true | .int _ => true | .str _ => true
  | _ => false
def eqFT : T → T → Bool
  | .non, .non => true
  | .bl a, .bl b => a == b
  | .bl a, .int b => (if a then 1 else 0) == b
  | .int a, .bl b => a == (if b then 1 else 0)
  | .int a, .int b => a == b
  | .str a, .str b => a == b
  | _, _ => false
theorem flat_T {Φ : Nat → Prop} {S : Sto} {d : D} {t : T} (r : Rd Φ S d t) : flatD d = flatT t := by cases r <;> rfl
theorem flats_T {Φ : Nat → Prop} {S : Sto} : ∀ {ds : List D} {ts : List T}, Rds Φ S ds ts → ds.all flatD = ts.all flatT
  | _, _, .nil => rfl
  | _, _, .cons h t => by rw [List.all_cons, List.all_cons, flat_T h, flats_T t]
theorem eqF_T {Φ : Nat → Prop} {S : Sto} {d e : D} {t u : T} (r : Rd Φ S d t) (r' : Rd Φ S e u) : eqF d e = eqFT t u := by cases r <;> cases r' <;> rfl
theorem any_T {Φ : Nat → Prop} {S : Sto} {d : D} {t : T} (r : Rd Φ S d t) : ∀ {ds : List D} {ts : List T}, Rds Φ S ds ts → (ds.any fun z => eqF z d) = ts.any fun z => eqFT z t
  | _, _, .nil => rfl
  | _, _, .cons h q => by rw [List.any_cons, List.any_cons, eqF_T h r, any_T r q]
def inS (t u : T) : Option Bool := match itsT u with
  | some ts => if flatT t = true ∧ ts.all flatT = true then some (ts.any fun z => eqFT z t) else
      match py deep t, py deep u with
      | some p, some (.list ps) => if SeqAt.shaped p = true ∧ SeqAt.shaped (.list ps) = true then some (ps.any fun z => PyData.eqv z p) else none
      | some p, some (.tuple ps) => if SeqAt.shaped p = true ∧ SeqAt.shaped (.tuple ps) = true then some (ps.any fun z => PyData.eqv z p) else none
      | _, _ => none
  | none => none
def inT (t u : T) : Option Bool := match t, u with
  | .str x, .str y => if x.cps.size = 1 then some (decide (x.cps.getD 0 0 ∈ y.cps.toList)) else none
  | t, u => inS t u
theorem inD_T {Φ : Nat → Prop} {S : Sto} {d e : D} {t u : T} (r : Rd Φ S d t) (r' : Rd Φ S e u) : inD S d e = inT t u := by
  by_cases h : ∃ x y, d = .str x ∧ e = .str y
  · obtain ⟨x, y, rfl, rfl⟩ := h
    cases r
    cases r'
    rfl
  · have h1 : inT t u = inS t u := by
      cases r <;> cases r' <;> first | rfl | exact absurd ⟨_, _, rfl, rfl⟩ h
    rw [h1]
    have h2 : inD S d e = match items S e with
        | some ds => if flatD d = true ∧ ds.all flatD = true then some (ds.any fun z => eqF z d) else
          match frz deep S d, frz deep S e with
          | some p, some (.list ps) => if SeqAt.shaped p = true ∧ SeqAt.shaped (.list ps) = true then some (ps.any fun z => PyData.eqv z p) else none
          | some p, some (.tuple ps) => if SeqAt.shaped p = true ∧ SeqAt.shaped (.tuple ps) = true then some (ps.any fun z => PyData.eqv z p) else none
          | _, _ => none
        | none => none := by
      cases d <;> cases e <;> first | rfl | exact absurd ⟨_, _, rfl, rfl⟩ h
    rw [h2]
    unfold inS
    rcases items_T r' with ⟨e1, e2⟩ | ⟨ds, ts, e1, e2, rs⟩
    · rw [e1, e2]
    · rw [e1, e2]
      simp only [flat_T r, flats_T rs, any_T r rs, frz_py deep _ _ r, frz_py deep _ _ r']
def qIn : TOp := fun t u => match inT t u with
  | some b => .ok (.bl b)
  | none => .bad
def qNotIn : TOp := fun t u => match inT t u with
  | some b => .ok (.bl !b)
  | none => .bad
theorem sq_in : OpT oIn qIn := fun Φ S d e t u r r' hB => by
  unfold oIn qIn
  rw [inD_T r r']
  cases inT t u with
  | some b => exact OkR.here (.bl _)
  | none => trivial
theorem sq_notIn : OpT oNotIn qNotIn := fun Φ S d e t u r r' hB => by
  unfold oNotIn qNotIn
  rw [inD_T r r']
  cases inT t u with
  | some b => exact OkR.here (.bl _)
  | none => trivial
end
end DL

set_option Elab.async false
set_option linter.all false
set_option maxRecDepth 100000
set_option maxHeartbeats 1000000
namespace DL
open PySem L2
section
variable {j : Option Nat} {a b c : Den} {p q r : TDen} {as : DenA} {qs : TDenA} {ba bb : DenB} {γ δ : TDenB}
theorem Rds.atI {Φ : Nat → Prop} {S : Sto} {ds : List D} {ts : List T} (r : Rds Φ S ds ts) (i : Int) : (L2.atI ds i = none ∧ L2.atI ts i = none) ∨ ∃ d t, L2.atI ds i = some d ∧ L2.atI ts i = some t ∧ Rd Φ S d t := by
  unfold L2.atI
  rw [r.len]
  cases ixN ts.length i with
  | none => exact .inl ⟨rfl, rfl⟩
  | some k =>
    show (ds[k]? = none ∧ ts[k]? = none) ∨ ∃ d t, ds[k]? = some d ∧ ts[k]? = some t ∧ Rd Φ S d t
    cases e : ts[k]? with
    | none => exact .inl ⟨by rw [List.getElem?_eq_none_iff] at e ⊢; rw [r.len]; exact e, rfl⟩
    | some t => obtain ⟨d, h1, h2⟩ := r.get e; exact .inr ⟨d, t, h1, rfl, h2⟩
def qIx : TOp := fun d e => match d, e with
  | .str z, .int i => if z.length ≤ big then (match atI z.cps.toList i with
    | some c => .ok (.str ⟨#[c]⟩)
    | none => .bad) else .bad
  | d, .int i => match itsT d with
    | some ds => (match atI ds i with
      | some x => .ok x
      | none => .bad)
    | none => .bad
  | _, _ => .bad
theorem sq_ix : OpT oIx qIx := fun Φ S d e t u r r' hB => by
  by_cases h : ∃ z, d = .str z
  · obtain ⟨z, rfl⟩ := h
    cases r
    cases r' <;> try trivial
    simp only [oIx, qIx]
    split
    · split
      · rename_i h; try simp only [h]
        exact .here (.str _)
      · rename_i h; try simp only [h]
        trivial
    · trivial
  · cases r' with
    | int i =>
      have h1 : oIx d (.int i) S = match items S d with
          | some ds => (match atI ds i with
            | some x => .ok x S
            | none => .bad)
          | none => .bad := by
        cases d <;> first | rfl | exact absurd ⟨_, rfl⟩ h
      have h2 : qIx t (.int i) = match itsT t with
          | some ds => (match atI ds i with
            | some x => .ok x
            | none => .bad)
          | none => .bad := by
        cases r <;> first | rfl | exact absurd ⟨_, rfl⟩ h
      rw [h1, h2]
      rcases items_T r with ⟨e1, e2⟩ | ⟨ds, ts, e1, e2, rs⟩
      · rw [e1, e2]; trivial
      · rw [e1, e2]
        rcases rs.atI i with ⟨e3, e4⟩ | ⟨d', t', e3, e4, r4⟩
        · simp only [e3, e4]; trivial
        · simp only [e3, e4]; exact .here r4
    | _ =>
      have h2 : ∀ u : T, (∀ i, u ≠ .int i) → qIx t u = .bad := by
        intro u hu
        unfold qIx
        split <;> first | rfl | exact absurd rfl (hu _)
      rw [h2 _ (by intro i; simp)]
      trivial
def keyT : T → Option Key
  | .int i => some (.inl i)
  | .str x => some (.inr x)
  | _ => none
theorem key_T {Φ : Nat → Prop} {S : Sto} {d : D} {t : T} (r : Rd Φ S d t) : keyD d = keyT t := by cases r <;> rfl
def valT (kvs : List (Key × T)) (k : Key) : Option T := (kvs.find? fun kv => decide (kv.1 = k)).map (·.2)
def putT (kvs : List (Key × T)) (k : Key) (v : T) : List (Key × T) :=
  if (kvs.any fun kv => decide (kv.1 = k)) = true then kvs.map (fun kv => if kv.1 = k then (kv.1, v) else kv) else kvs ++ [(k, v)]
def mergeT (kvs more : List (Key × T)) : List (Key × T) := more.foldl (fun acc kv => putT acc kv.1 kv.2) kvs
theorem Rdk.len {Φ : Nat → Prop} {S : Sto} : ∀ {ds : List (Key × D)} {ts : List (Key × T)}, Rdk Φ S ds ts → ds.length = ts.length
  | _, _, .nil => rfl
  | _, _, .cons _ t => congrArg (· + 1) (Rdk.len t)
theorem Rdk.val {Φ : Nat → Prop} {S : Sto} (k : Key) : ∀ {ds : List (Key × D)} {ts : List (Key × T)}, Rdk Φ S ds ts → (valD ds k = none ∧ valT ts k = none) ∨ ∃ d t, valD ds k = some d ∧ valT ts k = some t ∧ Rd Φ S d t
  | _, _, .nil => .inl ⟨rfl, rfl⟩
  | _, _, .cons (k := k') (d := d) (ds := ds) (t := t) (ts := ts) h q => by
    by_cases e : k' = k
    · subst e
      exact .inr ⟨d, t, by simp [valD], by simp [valT], h⟩
    · have h1 : valD ((k', d) :: ds) k = valD ds k := by simp [valD, List.find?, e]
      have h2 : valT ((k', t) :: ts) k = valT ts k := by simp [valT, List.find?, e]
      rw [h1, h2]
      exact Rdk.val k q
theorem Rdk.app {Φ : Nat → Prop} {S : Sto} : ∀ {ds es : List (Key × D)} {ts us : List (Key × T)}, Rdk Φ S ds ts → Rdk Φ S es us → Rdk Φ S (ds ++ es) (ts ++ us)
  | _, _, _, _, .nil, s => s
  | _, _, _, _, .cons h t, s => .cons h (Rdk.app t s)
theorem Rdk.anyK {Φ : Nat → Prop} {S : Sto} (k : Key) : ∀ {ds : List (Key × D)} {ts : List (Key × T)}, Rdk Φ S ds ts → (ds.any fun kv => decide (kv.1 = k)) = (ts.any fun kv => decide (kv.1 = k))
  | _, _, .nil => rfl
  | _, _, .cons h t => by rw [List.any_cons, List.any_cons, Rdk.anyK k t]
theorem Rdk.mapPut {Φ : Nat → Prop} {S : Sto} (k : Key) {d : D} {t : T} (r : Rd Φ S d t) : ∀ {ds : List (Key × D)} {ts : List (Key × T)}, Rdk Φ S ds ts → Rdk Φ S (ds.map fun kv => if kv.1 = k then (kv.1, d) else kv) (ts.map fun kv => if kv.1 = k then (kv.1, t) else kv)
  | _, _, .nil => .nil
  | _, _, .cons (k := k') h q => by
    by_cases e : k' = k
    · simp only [List.map_cons, e, if_true]; exact .cons r (Rdk.mapPut k r q)
    · simp only [List.map_cons, e, if_false]; exact .cons h (Rdk.mapPut k r q)
theorem Rdk.put {Φ : Nat → Prop} {S : Sto} (k : Key) {d : D} {t : T} (r : Rd Φ S d t) {ds : List (Key × D)} {ts : List (Key × T)} (h : Rdk Φ S ds ts) : Rdk Φ S (putD ds k d) (putT ts k t) := by
  unfold putD putT
  rw [h.anyK k]
  split
  · exact h.mapPut k r
  · exact h.app (.cons r .nil)
theorem Rdk.merge {Φ : Nat → Prop} {S : Sto} : ∀ {es : List (Key × D)} {us : List (Key × T)} {ds : List (Key × D)} {ts : List (Key × T)}, Rdk Φ S es us → Rdk Φ S ds ts → Rdk Φ S (mergeD ds es) (mergeT ts us)
  | _, _, _, _, .nil, h => h
  | _, _, _, _, .cons (k := k) (d := d) (ds := es) (t := t) (ts := us) r q, h => (Rdk.merge (es := es) (us := us) q (h.put k r) :)
def dctT : T → Option (List (Key × T))
  | .dct kvs => some kvs
  | _ => none
theorem dct_T {Φ : Nat → Prop} {S : Sto} {d : D} {t : T} (r : Rd Φ S d t) : (dctAt S d = none ∧ dctT t = none) ∨ ∃ n ds ts, dctAt S d = some (n, ds) ∧ dctT t = some ts ∧ Rdk Φ S ds ts ∧ ¬ Φ n ∧ S[n]? = some (.dct ds) := by
  cases r with
  | lst _ e rs => exact .inl ⟨by simp only [dctAt, e], rfl⟩
  | dct h e rs => exact .inr ⟨_, _, _, by simp only [dctAt, e], rfl, rs, h, e⟩
  | _ => exact .inl ⟨rfl, rfl⟩
def qGet : TOp := fun d k => match dctT d with
  | some kvs => (match keyT k with
    | some j => (match valT kvs j with
      | some v => .ok v
      | none => .bad)
    | none => .bad)
  | none => qIx d k
theorem sq_get : OpT oGet qGet := fun Φ S d e t u r r' hB => by
  unfold oGet qGet
  rcases dct_T r with ⟨e1, e2⟩ | ⟨n, ds, ts, e1, e2, rs, _, _⟩
  · rw [e1, e2]
    exact sq_ix Φ S d e t u r r' hB
  · rw [e1, e2, key_T r']
    cases keyT u with
    | none => trivial
    | some k =>
      rcases rs.val k with ⟨e3, e4⟩ | ⟨d', t', e3, e4, r4⟩
      · simp only [e3, e4]; trivial
      · simp only [e3, e4]; exact .here r4
def keyedT : List (T × T) → Option (List (Key × T))
  | [] => some []
  | (k, v) :: r => match keyT k, keyedT r with
    | some j, some s => some ((j, v) :: s)
    | _, _ => none
inductive Rdp (Φ : Nat → Prop) (S : Sto) : List (D × D) → List (T × T) → Prop
  | nil : Rdp Φ S [] []
  | cons {k v : D} {x y : T} {ds : List (D × D)} {ts : List (T × T)} : Rd Φ S k x → Rd Φ S v y → Rdp Φ S ds ts → Rdp Φ S ((k, v) :: ds) ((x, y) :: ts)
theorem Rdp.keyed {Φ : Nat → Prop} {S : Sto} : ∀ {ds : List (D × D)} {ts : List (T × T)}, Rdp Φ S ds ts → (DL.keyed ds = none ∧ keyedT ts = none) ∨ ∃ ks us, DL.keyed ds = some ks ∧ keyedT ts = some us ∧ Rdk Φ S ks us
  | _, _, .nil => .inr ⟨[], [], rfl, rfl, .nil⟩
  | _, _, .cons (x := x) hk hv h => by
    unfold DL.keyed keyedT
    rw [key_T hk]
    cases keyT x with
    | none => exact .inl ⟨rfl, rfl⟩
    | some k =>
      rcases Rdp.keyed h with ⟨e1, e2⟩ | ⟨ks, us, e1, e2, rs⟩
      · rw [e1, e2]; exact .inl ⟨rfl, rfl⟩
      · rw [e1, e2]; exact .inr ⟨_, _, rfl, rfl, .cons hv rs⟩
def cutT (xs : List T) (lo hi : Option Int) : List T := (xs.drop (HT.sIx xs.length 0 lo)).take (HT.sIx xs.length xs.length hi - HT.sIx xs.length 0 lo)
theorem Rds.cut {Φ : Nat → Prop} {S : Sto} {ds : List D} {ts : List T} (r : Rds Φ S ds ts) (lo hi : Option Int) : Rds Φ S (cutD ds lo hi) (cutT ts lo hi) := by
  unfold cutD cutT
  rw [r.len]
  exact (r.drop _).take _
def qSl (d : T) (lo hi : Option Int) : RT T := match d with
  | .str z => if z.length ≤ big then .ok (.str (cutS z lo hi)) else .bad
  | .tup ds => .ok (.tup (cutT ds lo hi))
  | .seq ds => if ds.length ≤ big then .ok (.lst (cutT ds lo hi)) else .bad
  | .lst ds => if ds.length ≤ big then .ok (.lst (cutT ds lo hi)) else .bad
  | _ => .bad
theorem sq_sl {Φ : Nat → Prop} {S : Sto} {d : D} {t : T} (r : Rd Φ S d t) (hB : Bnd Φ S) (lo hi : Option Int) : OkR Rd Φ S (oSl d lo hi S) (qSl t lo hi) := by
  cases r with
  | str x =>
    simp only [oSl, qSl]
    split
    · exact .here (.str _)
    · trivial
  | tup rs => exact .here (.tup (rs.cut lo hi))
  | seq rs =>
    simp only [oSl, qSl, rs.len]
    split
    · exact .newL hB (rs.cut lo hi)
    · trivial
  | lst _ e rs =>
    simp only [oSl, qSl, e, rs.len]
    split
    · exact .newL hB (rs.cut lo hi)
    · trivial
  | _ => trivial
def tNoPart : TDenO := fun _ => .ok none
def tPart (p : TDen) : TDenO := fun τ => (p τ).bind fun d => match d with
  | .int i => .ok (some i)
  | _ => .bad
theorem snd_noPart : SndO j dNoPart tNoPart := fun _ _ _ _ _ _ => .here rfl
theorem snd_part (ha : SndE j a p) : SndO j (dPart a) (tPart p) := fun Φ S ε τ er hB => (ha Φ S ε τ er hB).bind fun S1 d t p1 r1 => by
  cases r1 <;> first | exact OkR.here rfl | trivial
def tSl (p : TDen) (lo hi : TDenO) : TDen := fun τ => (p τ).bind fun d => (lo τ).bind fun l => (hi τ).bind fun u => qSl d l u
theorem snd_sl {lo hi : DenO} {lo' hi' : TDenO} (ha : SndE j a p) (hl : SndO j lo lo') (hh : SndO j hi hi') : SndE j (dSl a lo hi) (tSl p lo' hi') := fun Φ S ε τ er hB =>
  (ha Φ S ε τ er hB).bind fun S1 d t p1 r1 => (hl Φ S1 ε τ (er.pre p1) (hB.pre p1)).bind fun S2 e u p2 r2 => (hh Φ S2 ε τ ((er.pre p1).pre p2) ((hB.pre p1).pre p2)).bind fun S3 e3 u3 p3 r3 => by
    cases r2
    cases r3
    exact sq_sl ((r1.pre p2).pre p3) (((hB.pre p1).pre p2).pre p3) _ _
def tbAnd (a b : TDenB) : TDenB := fun τ => (a τ).bind fun c => if c = true then b τ else .ok false
def tbOr (a b : TDenB) : TDenB := fun τ => (a τ).bind fun c => if c = true then .ok true else b τ
def tbNot (a : TDenB) : TDenB := fun τ => (a τ).bind fun c => .ok (!c)
def tYes : TDenB := fun _ => .ok true
theorem snd_and (ha : SndB j ba γ) (hb : SndB j bb δ) : SndB j (bAnd ba bb) (tbAnd γ δ) := fun Φ S ε τ er hB => (ha Φ S ε τ er hB).bind fun S1 d t p1 r1 => by
  cases r1
  split
  · exact hb Φ S1 ε τ (er.pre p1) (hB.pre p1)
  · exact .here rfl
theorem snd_or (ha : SndB j ba γ) (hb : SndB j bb δ) : SndB j (bOr ba bb) (tbOr γ δ) := fun Φ S ε τ er hB => (ha Φ S ε τ er hB).bind fun S1 d t p1 r1 => by
  cases r1
  split
  · exact .here rfl
  · exact hb Φ S1 ε τ (er.pre p1) (hB.pre p1)
theorem snd_not (ha : SndB j ba γ) : SndB j (bNot ba) (tbNot γ) := fun Φ S ε τ er hB => (ha Φ S ε τ er hB).bind fun S1 d t p1 r1 => by
  cases r1
  exact .here rfl
theorem snd_yes : SndB j bYes tYes := fun _ _ _ _ _ _ => .here rfl
def tAndV (a b : TDen) : TDen := fun τ => (a τ).bind fun c => match c with
  | .bl true => b τ
  | .bl false => .ok (.bl false)
  | _ => .bad
def tOrV (a b : TDen) : TDen := fun τ => (a τ).bind fun c => match c with
  | .bl true => .ok (.bl true)
  | .bl false => b τ
  | _ => .bad
def tNotV (a : TDen) : TDen := fun τ => (a τ).bind fun c => match c with
  | .bl b => .ok (.bl !b)
  | _ => .bad
theorem snd_andV (ha : SndE j a p) (hb : SndE j b q) : SndE j (dAndV a b) (tAndV p q) := fun Φ S ε τ er hB => (ha Φ S ε τ er hB).bind fun S1 d t p1 r1 => by
  cases r1 with
  | bl b => cases b with
    | true => exact hb Φ S1 ε τ (er.pre p1) (hB.pre p1)
    | false => exact .here (.bl _)
  | _ => trivial
theorem snd_orV (ha : SndE j a p) (hb : SndE j b q) : SndE j (dOrV a b) (tOrV p q) := fun Φ S ε τ er hB => (ha Φ S ε τ er hB).bind fun S1 d t p1 r1 => by
  cases r1 with
  | bl b => cases b with
    | true => exact .here (.bl _)
    | false => exact hb Φ S1 ε τ (er.pre p1) (hB.pre p1)
  | _ => trivial
theorem snd_notV (ha : SndE j a p) : SndE j (dNotV a) (tNotV p) := fun Φ S ε τ er hB => (ha Φ S ε τ er hB).bind fun S1 d t p1 r1 => by
  cases r1 <;> first | exact OkR.here (.bl _) | trivial
def tIf (c : TDenB) (a b : TDen) : TDen := fun τ => (c τ).bind fun k => if k = true then a τ else b τ
abbrev TFn := List T → RT T
def FnT (f : Fn) (q : TFn) : Prop := ∀ Φ S ds ts, Rds Φ S ds ts → Bnd Φ S → OkR Rd Φ S (f ds S) (q ts)
def tFn (f : TFn) (qs : TDenA) : TDen := fun τ => (qs τ).bind f
theorem snd_fn {f : Fn} {q : TFn} (hf : FnT f q) (hs : SndA j as qs) : SndE j (dFn f as) (tFn q qs) := fun Φ S ε τ er hB => (hs Φ S ε τ er hB).bind fun S1 ds ts p1 r1 => hf Φ S1 ds ts r1 (hB.pre p1)
def tCall (n : Nat) (f : TFn) (qs : TDenA) : TDen := fun τ => (qs τ).bind fun ts => if ts.length = n then f ts else .bad
theorem snd_call {n : Nat} {f : Fn} {q : TFn} (hf : FnT f q) (hs : SndA j as qs) : SndE j (dCall n f as) (tCall n q qs) := fun Φ S ε τ er hB => (hs Φ S ε τ er hB).bind fun S1 ds ts p1 r1 => by
  rw [r1.len]
  split
  · exact hf Φ S1 ds ts r1 (hB.pre p1)
  · trivial
def litsT : T → Option (List T)
  | .seq ts => some ts
  | .lst ts => some ts
  | _ => none
theorem lits_T {Φ : Nat → Prop} {S : Sto} {d : D} {t : T} (r : Rd Φ S d t) : (litems S d = none ∧ litsT t = none) ∨ ∃ ds ts, litems S d = some ds ∧ litsT t = some ts ∧ Rds Φ S ds ts := by
  cases r with
  | seq rs => exact .inr ⟨_, _, rfl, rfl, rs⟩
  | lst _ e rs => exact .inr ⟨_, _, by simp only [litems, e], rfl, rs⟩
  | dct _ e rs => exact .inl ⟨by simp only [litems, e], rfl⟩
  | _ => exact .inl ⟨rfl, rfl⟩
def one1 (f : T → RT T) : TFn := fun ts => match ts with
  | [t] => f t
  | _ => .bad
theorem fn_one {f : Fn} {q : T → RT T} (h : ∀ Φ S d t, Rd Φ S d t → Bnd Φ S → OkR Rd Φ S (f [d] S) (q t)) : FnT f (one1 q) := fun Φ S ds ts r hB => by
  cases r with
  | nil => trivial
  | cons h1 t => cases t with
    | nil => exact h _ _ _ _ h1 hB
    | cons => trivial
def qLen : TFn := one1 fun d => match d with
  | .str z => if z.length ≤ big then .ok (.int z.length) else .bad
  | d => match itsT d with
    | some xs => .ok (.int xs.length)
    | none => .bad
theorem sf_len : FnT fLen qLen := fn_one fun Φ S d t r hB => by
  cases r with
  | str z =>
    simp only [fLen]
    split
    · exact .here (.int _)
    · trivial
  | tup rs => simp only [fLen, items, itsT, rs.len]; exact .here (.int _)
  | seq rs => simp only [fLen, items, itsT, rs.len]; exact .here (.int _)
  | lst _ e rs => simp only [fLen, items, itsT, e, rs.len]; exact .here (.int _)
  | _ => trivial
def qI : TFn := one1 fun d => match d with
  | .int i => .ok (.int i)
  | .bl b => .ok (.int (if b then 1 else 0))
  | _ => .bad
theorem sf_int : FnT fInt qI := fn_one fun Φ S d t r hB => by
  cases r <;> first | exact OkR.here (.int _) | trivial
def qList : TFn := one1 fun d => match itsT d with
  | some xs => .ok (.lst xs)
  | none => .bad
theorem sf_list : FnT fList qList := fn_one fun Φ S d t r hB => by
  unfold fList
  rcases items_T r with ⟨e1, e2⟩ | ⟨ds, ts, e1, e2, rs⟩
  · simp only [e1, e2]; trivial
  · simp only [e1, e2]; exact .newL hB rs
def qTuple : TFn := one1 fun d => match itsT d with
  | some xs => .ok (.tup xs)
  | none => .bad
def blT : T → Option Bool
  | .bl i => some i
  | _ => none
theorem fall_T {α : Type} {Φ : Nat → Prop} {S : Sto} {f : D → Option α} {g : T → Option α} (h : ∀ d t, Rd Φ S d t → f d = g t) : ∀ {ds : List D} {ts : List T}, Rds Φ S ds ts → fall f ds = fall g ts
  | _, _, .nil => rfl
  | _, _, .cons a b => by
    simp only [fall, h _ _ a, fall_T h b]
def qLstF (f : List T → RT T) : TFn := one1 fun d => match litsT d with
  | some xs => f xs
  | none => .bad
theorem sf_lstF {f : List D → Sto → R D} {q : List T → RT T} (h : ∀ Φ S ds ts, Rds Φ S ds ts → Bnd Φ S → OkR Rd Φ S (f ds S) (q ts)) : FnT (fLst f) (qLstF q) := fn_one fun Φ S d t r hB => by
  unfold fLst
  rcases lits_T r with ⟨e1, e2⟩ | ⟨ds, ts, e1, e2, rs⟩
  · simp only [e1, e2]; trivial
  · simp only [e1, e2]; exact h _ _ _ _ rs hB
theorem bl_T {Φ : Nat → Prop} {S : Sto} (d : D) (t : T) (r : Rd Φ S d t) : blD d = blT t := by cases r <;> rfl
def qAll : TFn := qLstF fun xs => match fall blT xs with
  | some ns => .ok (.bl (ns.all id))
  | none => .bad
theorem sf_all : FnT fAll qAll := sf_lstF fun Φ S ds ts r hB => by
  rw [fall_T bl_T r]
  cases fall blT ts with
  | none => trivial
  | some ns => exact .here (.bl _)
def qAny : TFn := qLstF fun xs => match fall blT xs with
  | some ns => .ok (.bl (ns.any id))
  | none => .bad
theorem sf_any : FnT fAny qAny := sf_lstF fun Φ S ds ts r hB => by
  rw [fall_T bl_T r]
  cases fall blT ts with
  | none => trivial
  | some ns => exact .here (.bl _)
def tyT : T → String
  | .non => "NoneType"
  | .bl _ => "bool"
  | .int _ => "int"
  | .str _ => "str"
  | .tup _ => "tuple"
  | .seq _ => "list"
  | .lst _ => "list"
  | .dct _ => "dict"
theorem ty_T {Φ : Nat → Prop} {S : Sto} {d : D} {t : T} (r : Rd Φ S d t) : tyD S d = some (tyT t) := by
  cases r with
  | lst _ e _ => simp only [tyD, e]; rfl
  | dct _ e _ => simp only [tyD, e]; rfl
  | _ => rfl
def tIsi (c : String) (p : TDen) : TDen := fun τ => (p τ).bind fun d => match kitB (tyT d) c with
  | some b => .ok (.bl b)
  | none => .bad
theorem snd_isi {k : String} (ha : SndE j a p) : SndE j (dIsi k a) (tIsi k p) := fun Φ S ε τ er hB => (ha Φ S ε τ er hB).bind fun S1 d t p1 r1 => by
  unfold isiD
  rw [ty_T r1]
  show OkR Rd Φ S1 (match kitB (tyT t) k with | some b => _ | none => _) _
  cases kitB (tyT t) k with
  | none => trivial
  | some b => exact .here (.bl _)
def signsT (x : Str) : List T := x.cps.toList.map fun c => .str ⟨#[c]⟩
theorem signs_T {Φ : Nat → Prop} {S : Sto} (x : Str) : Rds Φ S (signs x) (signsT x) := Rds.maps fun _ _ => .str _
end
end DL

set_option Elab.async false
set_option linter.all false
set_option maxRecDepth 100000
set_option maxHeartbeats 1000000
namespace DL
open PySem L2
def Keep (Φ : Nat → Prop) (S S' : Sto) : Prop := ∀ (n : Nat) (o : O), ¬ Φ n → S[n]? = some o → S'[n]? = some o
theorem Keep.refl {Φ : Nat → Prop} {S : Sto} : Keep Φ S S := fun _ _ _ e => e
theorem Keep.trans {Φ : Nat → Prop} {S S1 S2 : Sto} (a : Keep Φ S S1) (b : Keep Φ S1 S2) : Keep Φ S S2 := fun n o h e => b n o h (a n o h e)
theorem Keep.pre {Φ : Nat → Prop} {S S' : Sto} (p : S <+: S') : Keep Φ S S' := fun n o _ e => by
  obtain ⟨E, rfl⟩ := p
  rw [List.getElem?_append_left (List.getElem?_eq_some_iff.mp e).1]
  exact e
def rqI : RlT Src (List T) := fun Φ S src ts => ∃ ds, (∀ S', Keep Φ S S' → src S' = some ds) ∧ Rds Φ S ds ts
abbrev TIt := TEnv → RT (List T)
abbrev SndI (j : Option Nat) (a : IDen) (q : TIt) : Prop := Snd rqI j a q
section
variable {j : Option Nat} {a b c : Den} {p q r : TDen} {as : DenA} {qs : TDenA} {ba bb : DenB} {γ δ : TDenB}
theorem litems_keep {Φ : Nat → Prop} {S S' : Sto} {d : D} {t : T} (r : Rd Φ S d t) (k : Keep Φ S S') : litems S' d = litems S d := by
  cases r with
  | lst h e _ => simp only [litems, e, k _ _ h e]
  | dct h e _ => simp only [litems, e, k _ _ h e]
  | _ => rfl
def tiAny (p : TDen) : TIt := fun τ => (p τ).bind fun d => match d with
  | .tup ts => .ok ts
  | .str x => .ok (signsT x)
  | d => (match litsT d with
    | some ts => .ok ts
    | none => .bad)
theorem si_any (ha : SndE j a p) : SndI j (iAny a) (tiAny p) := fun Φ S ε τ er hB => (ha Φ S ε τ er hB).bind fun S1 d t p1 r1 => by
  cases r1 with
  | tup rs => exact .here ⟨_, fun _ _ => rfl, rs⟩
  | str x => exact .here ⟨_, fun _ _ => rfl, signs_T x⟩
  | seq rs => exact .here ⟨_, fun _ _ => rfl, rs⟩
  | lst h e rs =>
    simp only [litems, e, litsT]
    exact .here ⟨_, fun S' k => by simp only [k _ _ h e], rs⟩
  | _ => trivial
def numsT (lo : Int) (n : Nat) : List T := (List.range n).map fun (k : Nat) => T.int (lo + (k : Int))
theorem okR_ex : ∃ f : Int → Bool, ∀ i, f i = true ↔ okR i := ⟨fun i => by
  classical
  exact decide (okR i), fun i => decide_eq_true_iff⟩
noncomputable def okRb : Int → Bool := okR_ex.choose
theorem okRb_iff {i : Int} : okRb i = true ↔ okR i := okR_ex.choose_spec i
noncomputable def tiRange1 (p : TDen) : TIt := fun τ => (p τ).bind fun d => match d with
  | .int j => if okRb j = true then .ok (numsT 0 j.toNat) else .bad
  | _ => .bad
noncomputable def tiRange2 (p q : TDen) : TIt := fun τ => (p τ).bind fun d => (q τ).bind fun e => match d, e with
  | .int i, .int j => if okRb i = true ∧ okRb j = true then .ok (numsT i (j - i).toNat) else .bad
  | _, _ => .bad
theorem si_range1 (ha : SndE j a p) : SndI j (iRange1 a) (tiRange1 p) := fun Φ S ε τ er hB => (ha Φ S ε τ er hB).bind fun S1 d t p1 r1 => by
  cases r1 <;> try trivial
  simp only [okRb_iff]
  split
  · exact .here ⟨_, fun _ _ => rfl, Rds.maps fun _ _ => .int _⟩
  · trivial
theorem si_range2 (ha : SndE j a p) (hb : SndE j b q) : SndI j (iRange2 a b) (tiRange2 p q) := fun Φ S ε τ er hB => (ha Φ S ε τ er hB).bind fun S1 d t p1 r1 => (hb Φ S1 ε τ (er.pre p1) (hB.pre p1)).bind fun S2 e u p2 r2 => by
  cases r1 <;> cases r2 <;> try trivial
  simp only [okRb_iff]
  split
  · exact .here ⟨_, fun _ _ => rfl, Rds.maps fun _ _ => .int _⟩
  · trivial
def numT (i : Nat) : List T → List T
  | [] => []
  | d :: ds => .tup [.int (i : Int), d] :: numT (i + 1) ds
theorem num_R {Φ : Nat → Prop} {S : Sto} : ∀ {ds : List D} {ts : List T} (i : Nat), Rds Φ S ds ts → Rds Φ S (numbered i ds) (numT i ts)
  | _, _, _, .nil => .nil
  | _, _, i, .cons h t => .cons (.tup (.cons (.int _) (.cons h .nil))) (num_R (i + 1) t)
abbrev TG := T → TEnv → Option TEnv
abbrev TGs := List T → TEnv → Option TEnv
def SndG (j : Option Nat) (g : GDen) (h : DL.TG) : Prop := ∀ Φ S ε τ d t, EnvR Φ j S ε τ → Rd Φ S d t → ∀ τ', h t τ = some τ' → ∃ ε', g d ε S = some ε' ∧ EnvR Φ j S ε' τ' ∧ ∀ i, j = some i → ε'[i]? = ε[i]? ∧ τ'[i]? = τ[i]?
def SndGs (j : Option Nat) (g : GDens) (h : DL.TGs) : Prop := ∀ Φ S ε τ d t, EnvR Φ j S ε τ → Rds Φ S d t → ∀ τ', h t τ = some τ' → ∃ ε', g d ε S = some ε' ∧ EnvR Φ j S ε' τ' ∧ ∀ i, j = some i → ε'[i]? = ε[i]? ∧ τ'[i]? = τ[i]?
def hN (i : Nat) : DL.TG := fun t τ => some (τ.set i (some t))
theorem sg_name (k : Nat) (h : j ≠ some k := by decide) : SndG j (gN k) (hN k) := fun Φ S ε τ d t er r τ' e => by
  cases e
  refine ⟨_, rfl, er.set k r, fun i hi => ?_⟩
  have hk : k ≠ i := fun q => h (by rw [hi, q])
  exact ⟨List.getElem?_set_ne hk, List.getElem?_set_ne hk⟩
def hsNil : DL.TGs := fun ts τ => match ts with
  | [] => some τ
  | _ => none
def hsCons (g : DL.TG) (r : DL.TGs) : DL.TGs := fun ts τ => match ts with
  | t :: ts => (g t τ).bind fun τ => r ts τ
  | [] => none
theorem sg_nil : SndGs j gsNil hsNil := fun Φ S ε τ d t er r τ' e => by
  cases r with
  | nil => cases e; exact ⟨ε, rfl, er, fun _ _ => ⟨rfl, rfl⟩⟩
  | cons => cases e
theorem sg_cons {g : GDen} {gs : GDens} {h : DL.TG} {hs : DL.TGs} (h1 : SndG j g h) (h2 : SndGs j gs hs) : SndGs j (gsCons g gs) (hsCons h hs) := fun Φ S ε τ d t er r τ' e => by
  cases r with
  | nil => cases e
  | cons r rs =>
    obtain ⟨τ1, e1, e2⟩ := Option.bind_eq_some_iff.mp (show (h _ τ).bind (fun τ => hs _ τ) = some τ' from e)
    obtain ⟨ε1, a1, a2, a3⟩ := h1 Φ S ε τ _ _ er r τ1 e1
    obtain ⟨ε2, b1, b2, b3⟩ := h2 Φ S ε1 τ1 _ _ a2 rs τ' e2
    refine ⟨ε2, ?_, b2, fun i hi => ⟨(b3 i hi).1.trans (a3 i hi).1, (b3 i hi).2.trans (a3 i hi).2⟩⟩
    show (g _ ε S).bind (fun ε => gs _ ε S) = _
    rw [a1]
    exact b1
def hT (n : Nat) (g : DL.TGs) : DL.TG := fun t τ => match t with
  | .tup ts => if ts.length = n then g ts τ else none
  | _ => none
def hL (n : Nat) (g : DL.TGs) : DL.TG := fun t τ => match litsT t with
  | some ts => if ts.length = n then g ts τ else none
  | none => none
theorem sg_tup {n : Nat} {g : GDens} {h : DL.TGs} (h1 : SndGs j g h) : SndG j (gT n g) (hT n h) := fun Φ S ε τ d t er r τ' e => by
  cases r with
  | tup rs =>
    simp only [hT] at e
    simp only [gT, rs.len]
    split at e
    · rename_i hn
      rw [if_pos hn]
      exact h1 Φ S ε τ _ _ er rs τ' e
    · cases e
  | _ => cases e
def noXT {α : Type} : RT α → RT α
  | .ok a => .ok a
  | _ => .bad
def tlcI (g : DL.TG) (c : TDenB) (e : TDen) (vs : List Nat) (τ : TEnv) : List T → List T → RT (List T)
  | [], acc => .ok acc
  | t :: r, acc => match g t (twipe τ vs) with
    | none => .bad
    | some τ1 => (noXT (c τ1)).bind fun k => if k = true then (noXT (e τ1)).bind fun x => (if acc.length < big then tlcI g c e vs τ r (acc ++ [x]) else .bad) else tlcI g c e vs τ r acc
def tLc (it : TIt) (g : DL.TG) (c : TDenB) (e : TDen) (vs : List Nat) : TDen := fun τ => (it τ).bind fun ts => (tlcI g c e vs τ ts []).bind fun us => .ok (.lst us)
theorem OkR.noX {β α : Type} {Rl : RlT β α} {Φ : Nat → Prop} {S : Sto} {r : R β} {q : RT α} (h : OkR Rl Φ S r q) : OkR Rl Φ S (DL.noX r) (noXT q) := by
  cases q with
  | ok t => obtain ⟨S', d, rfl, p, rl⟩ := h; exact ⟨S', d, rfl, p, rl⟩
  | exc c => trivial
  | bad => trivial
theorem lc_sim {g : GDen} {h : DL.TG} {e : Den} {x : TDen} {vs : List Nat} (hg : SndG j g h) (hc : SndB j ba γ) (he : SndE j e x) {Φ : Nat → Prop} {ε : Env} {τ : TEnv} {src : Src} {ds : List D} :
    ∀ (rest acc : List T) (restD accD : List D) (i m : Nat) (S : Sto), ds = ds.take i ++ restD → i ≤ ds.length → restD.length < m → (∀ S', Keep Φ S S' → src S' = some ds) → Rds Φ S restD rest → Rds Φ S accD acc → EnvR Φ j S ε τ → Bnd Φ S →
      OkR Rds Φ S (lcI src g ba e vs ε m i accD S) (tlcI h γ x vs τ rest acc)
  | _, _, _, _, _, 0, _, _, _, hm, _, _, _, _, _ => by omega
  | [], acc, [], accD, i, m + 1, S, hd, hi, hm, hs, .nil, ra, er, hB => by
    unfold lcI
    rw [hs S Keep.refl]
    have : ds[i]? = none := by
      rw [List.getElem?_eq_none_iff]
      have := congrArg List.length hd
      rw [List.append_nil, List.length_take] at this
      omega
    simp only [this]
    exact .here ra
  | t :: rest, acc, d :: restD, accD, i, m + 1, S, hd, hi, hm, hs, .cons r rs, ra, er, hB => by
    have hdi : ds[i]? = some d := by
      rw [hd, List.getElem?_append_right (by rw [List.length_take]; omega), List.length_take, Nat.min_eq_left hi, Nat.sub_self]
      rfl
    have hil : i < ds.length := (List.getElem?_eq_some_iff.mp hdi).1
    have hd' : ds = ds.take (i + 1) ++ restD := by
      have := List.take_append_drop (i + 1) ds
      have h2 : ds.drop (i + 1) = restD := by
        have h3 : ds.drop i = d :: restD := by
          conv => lhs; rw [hd]
          rw [List.drop_append_of_le_length (by rw [List.length_take]; omega), List.drop_eq_nil_of_le (by rw [List.length_take]; omega)]
          rfl
        rw [← List.drop_drop, h3]
        rfl
      rw [h2] at this
      exact this.symm
    unfold lcI tlcI
    rw [hs S Keep.refl]
    simp only [hdi]
    cases e1 : h t (twipe τ vs) with
    | none => trivial
    | some τ1 =>
      obtain ⟨ε1, g1, er1, _⟩ := hg Φ S _ _ d t (er.wipe vs) r τ1 e1
      simp only [g1]
      refine (hc Φ S ε1 τ1 er1 hB).noX.bind fun S1 k k' p1 r1 => ?_
      cases r1
      split
      · refine (he Φ S1 ε1 τ1 (er1.pre p1) (hB.pre p1)).noX.bind fun S2 d2 t2 p2 r2 => ?_
        rw [ra.len]
        split
        · exact lc_sim hg hc he rest (acc ++ [t2]) restD (accD ++ [d2]) (i + 1) m S2 hd' hil (by simp at hm; omega) (fun S' k => hs S' ((Keep.pre (p1.trans p2)).trans k)) ((rs.pre p1).pre p2) (((ra.pre p1).pre p2).app (.cons r2 .nil)) ((er.pre p1).pre p2) ((hB.pre p1).pre p2)
        · trivial
      · exact lc_sim hg hc he rest acc restD accD (i + 1) m S1 hd' hil (by simp at hm; omega) (fun S' k => hs S' ((Keep.pre p1).trans k)) (rs.pre p1) (ra.pre p1) (er.pre p1) (hB.pre p1)
theorem snd_lc {it : IDen} {ι : TIt} {g : GDen} {h : DL.TG} {e : Den} {x : TDen} {vs : List Nat} (hi : SndI j it ι) (hg : SndG j g h) (hc : SndB j ba γ) (he : SndE j e x) : SndE j (dLc it g ba e vs) (tLc ι h γ x vs) := fun Φ S ε τ er hB =>
  (hi Φ S ε τ er hB).bind fun S1 src ts p1 ⟨ds, r1, rs⟩ => by
    simp only [r1 S1 Keep.refl]
    refine (lc_sim hg hc he ts [] ds [] 0 (ds.length + 1) S1 rfl (Nat.zero_le _) (Nat.lt_succ_self _) r1 rs .nil (er.pre p1) (hB.pre p1)).bind fun S2 us ws p2 r2 => ?_
    exact .newL ((hB.pre p1).pre p2) r2
end
inductive TFl where
  | nx (τ : TEnv) | rt (t : T) | ex (c : Str) (τ : TEnv)
abbrev TSDen := TEnv → RT TFl
def plus (Φ : Nat → Prop) (n : Nat) : Nat → Prop := fun k => Φ k ∨ k = n
def frb (Φ : Nat → Prop) (j : Option Nat) (n : Nat) : Nat → Prop := match j with
  | none => Φ
  | some _ => plus Φ n
def OwnR (B : Nat) (Φ : Nat → Prop) (j : Option Nat) (n : Nat) (S : Sto) (ε : Env) (τ : TEnv) : Prop := match j with
  | none => EnvR Φ none S ε τ
  | some i => B ≤ n ∧ n < S.length ∧ (∃ ds ts, ε[i]? = some (some (.ref n)) ∧ S[n]? = some (.lst ds) ∧ Rds (plus Φ n) S ds ts ∧ τ[i]? = some (some (.lst ts))) ∧ EnvR (plus Φ n) (some i) S ε τ
theorem OwnR.env {B : Nat} {Φ : Nat → Prop} {j : Option Nat} {n : Nat} {S : Sto} {ε : Env} {τ : TEnv} (h : OwnR B Φ j n S ε τ) : EnvR (frb Φ j n) j S ε τ := by
  cases j with
  | none => exact h
  | some i => exact h.2.2.2
theorem OwnR.bnd {B : Nat} {Φ : Nat → Prop} {j : Option Nat} {n : Nat} {S : Sto} {ε : Env} {τ : TEnv} (h : OwnR B Φ j n S ε τ) (hb : Bnd Φ S) : Bnd (frb Φ j n) S := by
  cases j with
  | none => exact hb
  | some i =>
    intro k q
    rcases q with q | rfl
    · exact hb k q
    · exact h.2.1
theorem OwnR.keep {B : Nat} {Φ : Nat → Prop} {j : Option Nat} {n : Nat} {S S' : Sto} {ε : Env} {τ : TEnv} (h : OwnR B Φ j n S ε τ) (p : S <+: S') : OwnR B Φ j n S' ε τ := by
  cases j with
  | none => exact EnvR.pre h p
  | some i =>
    obtain ⟨h1, h2, ⟨ds, ts, a1, a2, a3, a4⟩, h4⟩ := h
    refine ⟨h1, Nat.lt_of_lt_of_le h2 p.length_le, ⟨ds, ts, a1, ?_, a3.pre p, a4⟩, h4.pre p⟩
    obtain ⟨E, rfl⟩ := p
    rw [List.getElem?_append_left h2]
    exact a2
theorem OwnR.rel {B : Nat} {Φ : Nat → Prop} {j : Option Nat} {n : Nat} {S : Sto} {ε : Env} {τ : TEnv} (h : OwnR B Φ j n S ε τ) (hb : ∀ k, Φ k → k < B) : EnvR Φ none S ε τ := by
  cases j with
  | none => exact h
  | some i =>
    obtain ⟨h1, h2, ⟨ds, ts, a1, a2, a3, a4⟩, h4⟩ := h
    refine ⟨h4.len, fun k t _ e => ?_⟩
    by_cases q : k = i
    · subst q
      rw [a4] at e
      cases e
      exact ⟨_, a1, .lst (fun q => by have := hb _ q; omega) a2 (a3.keep (fun _ _ q => .inl q) fun _ _ _ e => e)⟩
    · obtain ⟨d, e1, e2⟩ := h4.at_ k t (by simp; exact fun z => q z.symm) e
      exact ⟨d, e1, e2.keep (fun _ _ q => .inl q) fun _ _ _ e => e⟩
structure NxR (B : Nat) (Φ : Nat → Prop) (j : Option Nat) (n : Nat) (S : Sto) (j' : Option Nat) (S' : Sto) (ε' : Env) (τ' : TEnv) : Prop where
  ln : S.length ≤ S'.length
  kp : Keep (frb Φ j n) S S'
  lo : ∀ (k : Nat) (o : O), k < B → S[k]? = some o → S'[k]? = some o
  ow : ∃ n', OwnR B Φ j' n' S' ε' τ' ∧ ((j.isSome = true ∧ n' = n) ∨ S.length ≤ n' ∨ j' = none)
def OkF (B : Nat) (Φ : Nat → Prop) (j : Option Nat) (n : Nat) (S : Sto) (j' : Option Nat) (r : R Fl) : RT TFl → Prop
  | .ok (.nx τ') => ∃ S' ε', r = .ok (.nx ε') S' ∧ NxR B Φ j n S j' S' ε' τ'
  | .ok (.rt t) => ∃ S' d, r = .ok (.rt d) S' ∧ (∀ (k : Nat) (o : O), k < B → S[k]? = some o → S'[k]? = some o) ∧ Rd Φ S' d t ∧ S.length ≤ S'.length
  | .ok (.ex c τ') => ∃ S' ε', r = .ok (.ex c ε') S' ∧ NxR B Φ j n S none S' ε' τ'
  | .exc _ => True
  | .bad => True
def SndS (j j' : Option Nat) (a : SDen) (q : TSDen) : Prop := ∀ B Φ n S ε τ, OwnR B Φ j n S ε τ → (∀ k, Φ k → k < B) → B ≤ S.length → OkF B Φ j n S j' (a ε S) (q τ)
end DL

set_option Elab.async false
set_option linter.all false
set_option maxRecDepth 100000
set_option maxHeartbeats 1000000
namespace DL
open PySem L2
section
variable {B n : Nat} {Φ : Nat → Prop} {j j' j1 j2 : Option Nat} {S S' S1 S2 : Sto} {ε ε' ε1 : Env} {τ τ' τ1 : TEnv}
theorem NxR.trans {n1 : Nat} (h : S.length ≤ S1.length) (kp : Keep (frb Φ j n) S S1) (lo : ∀ (k : Nat) (o : O), k < B → S[k]? = some o → S1[k]? = some o) (hn : (j.isSome = true ∧ n1 = n) ∨ S.length ≤ n1 ∨ j1 = none)
    (b : NxR B Φ j1 n1 S1 j2 S2 ε' τ') : NxR B Φ j n S j2 S2 ε' τ' := by
  refine ⟨Nat.le_trans h b.ln, fun k o hk e => b.kp k o (fun q => ?_) (kp k o hk e), fun k o hk e => b.lo k o hk (lo k o hk e), ?_⟩
  · have hl : k < S.length := (List.getElem?_eq_some_iff.mp e).1
    cases j1 with
    | none =>
      apply hk
      cases j with
      | none => exact q
      | some i => exact .inl q
    | some i1 =>
      rcases q with q | rfl
      · apply hk
        cases j with
        | none => exact q
        | some i => exact .inl q
      · rcases hn with ⟨hj, rfl⟩ | hn | hn
        · cases j with
          | none => cases hj
          | some i => exact hk (.inr rfl)
        · omega
        · cases hn
  · obtain ⟨n2, o2, h2⟩ := b.ow
    refine ⟨n2, o2, ?_⟩
    rcases h2 with ⟨hj, rfl⟩ | h2 | h2
    · rcases hn with hn | hn | hn
      · exact .inl hn
      · exact .inr (.inl hn)
      · subst hn; cases hj
    · exact .inr (.inl (Nat.le_trans h h2))
    · exact .inr (.inr h2)
theorem OkF.up {n1 : Nat} {r : R Fl} {q : RT TFl} (h : S.length ≤ S1.length) (kp : Keep (frb Φ j n) S S1) (lo : ∀ (k : Nat) (o : O), k < B → S[k]? = some o → S1[k]? = some o) (hn : (j.isSome = true ∧ n1 = n) ∨ S.length ≤ n1 ∨ j1 = none)
    (b : OkF B Φ j1 n1 S1 j2 r q) : OkF B Φ j n S j2 r q := by
  cases q with
  | ok f => cases f with
    | nx τ => obtain ⟨S', ε', e, x⟩ := b; exact ⟨S', ε', e, x.trans h kp lo hn⟩
    | rt t => obtain ⟨S', d, e, x, y, z⟩ := b; exact ⟨S', d, e, fun k o hk e => x k o hk (lo k o hk e), y, Nat.le_trans h z⟩
    | ex c τ => obtain ⟨S', ε', e, x⟩ := b; exact ⟨S', ε', e, x.trans h kp lo hn⟩
  | exc c => trivial
  | bad => trivial
theorem OkF.upp {r : R Fl} {q : RT TFl} (p : S <+: S1) (b : OkF B Φ j n S1 j2 r q) : OkF B Φ j n S j2 r q := by
  refine OkF.up (n1 := n) (j1 := j) p.length_le (Keep.pre p) (fun k o _ e => ?_) ?_ b
  · obtain ⟨E, rfl⟩ := p
    rw [List.getElem?_append_left (List.getElem?_eq_some_iff.mp e).1]
    exact e
  · cases j with
    | none => exact .inr (.inr rfl)
    | some i => exact .inl ⟨rfl, rfl⟩
theorem nx_here (ow : OwnR B Φ j n S ε τ) : NxR B Φ j n S j S ε τ := by
  refine ⟨Nat.le_refl _, Keep.refl, fun _ _ _ e => e, n, ow, ?_⟩
  cases j with
  | none => exact .inr (.inr rfl)
  | some i => exact .inl ⟨rfl, rfl⟩
theorem OwnR.drop (ow : OwnR B Φ j n S ε τ) (hb : ∀ k, Φ k → k < B) : NxR B Φ j n S none S ε τ :=
  ⟨Nat.le_refl _, Keep.refl, fun _ _ _ e => e, n, ow.rel hb, .inr (.inr rfl)⟩
theorem NxR.rel (h : NxR B Φ j n S j' S' ε' τ') (hb : ∀ k, Φ k → k < B) : NxR B Φ j n S none S' ε' τ' := by
  obtain ⟨n', o, _⟩ := h.ow
  exact ⟨h.ln, h.kp, h.lo, n', o.rel hb, .inr (.inr rfl)⟩
def tsE {α : Type} (q : RT α) (τ : TEnv) (κ : α → RT TFl) : RT TFl := match q with
  | .ok t => κ t
  | .exc c => .ok (.ex c τ)
  | .bad => .bad
theorem OkF.sE {β α : Type} {Rl : RlT β α} {r : R β} {q : RT α} {k : β → Sto → R Fl} {κ : α → RT TFl} (ow : OwnR B Φ j n S ε τ) (hb : ∀ k, Φ k → k < B) (h : OkR Rl (frb Φ j n) S r q)
    (hk : ∀ S' d t, S <+: S' → Rl (frb Φ j n) S' d t → OkF B Φ j n S' j' (k d S') (κ t)) : OkF B Φ j n S j' (DL.sE r ε k) (tsE q τ κ) := by
  cases q with
  | ok t =>
    obtain ⟨S', d, rfl, p, rl⟩ := h
    exact (hk S' d t p rl).upp p
  | exc c =>
    obtain ⟨S', rfl, p⟩ := h
    refine OkF.upp (q := .ok (.ex c τ)) p ⟨S', ε, rfl, (ow.keep p).drop hb⟩
  | bad => trivial
variable {a b : SDen} {q q' : TSDen}
theorem bnd_of (hb : ∀ k, Φ k → k < B) (hl : B ≤ S.length) : Bnd Φ S := fun k q => Nat.lt_of_lt_of_le (hb k q) hl
def tsNil : TSDen := fun τ => .ok (.nx τ)
theorem ss_nil : SndS j j sNil tsNil := fun B Φ n S ε τ ow hb hl => ⟨S, ε, rfl, nx_here ow⟩
def tsN (q : RT TFl) (k : TEnv → RT TFl) : RT TFl := match q with
  | .ok (.nx τ) => k τ
  | q => q
def tsSeq (q q' : TSDen) : TSDen := fun τ => tsN (q τ) q'
theorem ss_seq (ha : SndS j j1 a q) (hb' : SndS j1 j2 b q') : SndS j j2 (sSeq a b) (tsSeq q q') := fun B Φ n S ε τ ow hb hl => by
  have h := ha B Φ n S ε τ ow hb hl
  unfold sSeq tsSeq
  cases e : q τ with
  | ok f =>
    rw [e] at h
    cases f with
    | nx τ1 =>
      obtain ⟨S1, ε1, e1, x⟩ := h
      rw [e1]
      obtain ⟨n1, o1, h1⟩ := x.ow
      exact (hb' B Φ n1 S1 ε1 τ1 o1 hb (Nat.le_trans hl x.ln)).up x.ln x.kp x.lo h1
    | rt t => obtain ⟨S1, d, e1, x⟩ := h; rw [e1]; exact ⟨S1, d, rfl, x⟩
    | ex c τ1 => obtain ⟨S1, d, e1, x⟩ := h; rw [e1]; exact ⟨S1, d, rfl, x⟩
  | exc c => trivial
  | bad => trivial
theorem ss_rel (ha : SndS j j' a q) : SndS j none a q := fun B Φ n S ε τ ow hb hl => by
  have h := ha B Φ n S ε τ ow hb hl
  cases e : q τ with
  | ok f =>
    rw [e] at h
    cases f with
    | nx τ1 => obtain ⟨S1, ε1, e1, x⟩ := h; exact ⟨S1, ε1, e1, x.rel hb⟩
    | rt t => exact h
    | ex c τ1 => exact h
  | exc c => trivial
  | bad => trivial
variable {x y : Den} {p p' : TDen} {c : DenB} {γ : TDenB}
def tsRet (p : TDen) : TSDen := fun τ => tsE (p τ) τ fun t => .ok (.rt t)
theorem rt_of {d : D} {t : T} (r : Rd (frb Φ j n) S d t) : Rd Φ S d t := r.keep (fun k _ q => by cases j with | none => exact q | some i => exact .inl q) fun _ _ _ e => e
theorem ss_ret (hx : SndE j x p) : SndS j j' (sRet x) (tsRet p) := fun B Φ n S ε τ ow hb hl =>
  OkF.sE ow hb (hx _ S ε τ ow.env (ow.bnd (bnd_of hb hl))) fun S1 d t p1 r1 => ⟨S1, d, rfl, fun _ _ _ e => e, rt_of r1, Nat.le_refl _⟩
def tsAsg (p : TDen) (g : DL.TG) : TSDen := fun τ => tsE (p τ) τ fun t => match g t τ with
  | some τ' => .ok (.nx τ')
  | none => .bad
theorem OwnR.swap (ow : OwnR B Φ j n S ε τ) (er : EnvR (frb Φ j n) j S ε' τ') (h : ∀ i, j = some i → ε'[i]? = ε[i]? ∧ τ'[i]? = τ[i]?) : OwnR B Φ j n S ε' τ' := by
  cases j with
  | none => exact er
  | some i =>
    obtain ⟨h1, h2, ⟨ds, ts, a1, a2, a3, a4⟩, h4⟩ := ow
    obtain ⟨b1, b2⟩ := h i rfl
    exact ⟨h1, h2, ⟨ds, ts, b1.trans a1, a2, a3, b2.trans a4⟩, er⟩
theorem ss_asg {g : GDen} {h : DL.TG} (hx : SndE j x p) (hg : SndG j g h) : SndS j j (sAsg x g) (tsAsg p h) := fun B Φ n S ε τ ow hb hl =>
  OkF.sE ow hb (hx _ S ε τ ow.env (ow.bnd (bnd_of hb hl))) fun S1 d t p1 r1 => by
    cases e : h t τ with
    | none => trivial
    | some τ' =>
      obtain ⟨ε', g1, g2, g3⟩ := hg _ S1 ε τ d t (ow.env.pre p1) r1 τ' e
      rw [g1]
      exact ⟨S1, ε', rfl, nx_here ((ow.keep p1).swap g2 g3)⟩
def tsIf (c : TDenB) (a b : TSDen) : TSDen := fun τ => tsE (c τ) τ fun k => if k = true then a τ else b τ
theorem ss_if (hc : SndB j c γ) (ha : SndS j j' a q) (hb' : SndS j j' b q') : SndS j j' (sIf c a b) (tsIf γ q q') := fun B Φ n S ε τ ow hb hl =>
  OkF.sE ow hb (hc _ S ε τ ow.env (ow.bnd (bnd_of hb hl))) fun S1 d t p1 r1 => by
    cases r1
    split
    · exact ha B Φ n S1 ε τ (ow.keep p1) hb (Nat.le_trans hl p1.length_le)
    · exact hb' B Φ n S1 ε τ (ow.keep p1) hb (Nat.le_trans hl p1.length_le)
def tForL (g : DL.TG) (b : TSDen) : List T → TSDen
  | [], τ => .ok (.nx τ)
  | t :: r, τ => match g t τ with
    | none => .bad
    | some τ1 => tsN (b τ1) (tForL g b r)
def tsFor (it : TIt) (g : DL.TG) (b : TSDen) : TSDen := fun τ => tsE (it τ) τ fun ts => tForL g b ts τ
theorem NxR.comp {ε2 : Env} {τ2 : TEnv} (a : NxR B Φ j n S j1 S1 ε1 τ1) (b : ∀ n1, OwnR B Φ j1 n1 S1 ε1 τ1 → ((j.isSome = true ∧ n1 = n) ∨ S.length ≤ n1 ∨ j1 = none) → NxR B Φ j1 n1 S1 j2 S2 ε2 τ2) : NxR B Φ j n S j2 S2 ε2 τ2 := by
  obtain ⟨n1, o1, h1⟩ := a.ow
  exact (b n1 o1 h1).trans a.ln a.kp a.lo h1
theorem drop_step {α : Type} {ds restD : List α} {d : α} {i : Nat} (h : ds.drop i = d :: restD) : ds[i]? = some d ∧ ds.drop (i + 1) = restD := by
  constructor
  · have := congrArg (fun l => l[0]?) h
    simpa [List.getElem?_drop] using this
  · rw [← List.drop_drop, h]
    rfl
theorem for_sim {g : GDen} {h : DL.TG} (hg : SndG j g h) (hbd : SndS j j a q) {src : Src} {ds : List D} {S0 : Sto} {n0 : Nat} (hb : ∀ k, Φ k → k < B) (hl : B ≤ S0.length) (hs : ∀ S', Keep (frb Φ j n0) S0 S' → src S' = some ds) :
    ∀ (rest : List T) (restD : List D) (i m : Nat) (S : Sto) (ε : Env) (τ : TEnv), ds.drop i = restD → restD.length < m → Rds (frb Φ j n0) S0 restD rest → NxR B Φ j n0 S0 j S ε τ →
      OkF B Φ j n0 S0 j (forI src g a m i ε S) (tForL h q rest τ)
  | _, _, _, 0, _, _, _, _, hm, _, _ => by omega
  | [], [], i, m + 1, S, ε, τ, hd, hm, .nil, nx => by
    have hi : ds[i]? = none := by
      rw [List.getElem?_eq_none_iff]
      exact List.drop_eq_nil_iff.mp hd
    unfold forI
    rw [hs S nx.kp]
    simp only [hi]
    exact ⟨S, ε, rfl, nx⟩
  | t :: rest, d :: restD, i, m + 1, S, ε, τ, hd, hm, .cons r rs, nx => by
    obtain ⟨hdi, hd'⟩ := drop_step hd
    unfold forI tForL
    rw [hs S nx.kp]
    simp only [hdi]
    cases e1 : h t τ with
    | none => trivial
    | some τ1 =>
      obtain ⟨n1, o1, h1⟩ := nx.ow
      have rd : Rd (frb Φ j n1) S d t := r.keep (fun k hk q => by
        cases j with
        | none => exact q
        | some i0 =>
          rcases q with q | rfl
          · exact .inl q
          · rcases h1 with ⟨_, h1⟩ | h1 | h1
            · exact .inr h1
            · omega
            · cases h1) nx.kp
      obtain ⟨ε1, g1, er1, g3⟩ := hg _ S ε τ d t o1.env rd τ1 e1
      simp only [g1]
      have hbody := hbd B Φ n1 S ε1 τ1 (o1.swap er1 g3) hb (Nat.le_trans hl nx.ln)
      cases e2 : q τ1 with
      | ok f =>
        rw [e2] at hbody
        cases f with
        | nx τ2 =>
          obtain ⟨S2, ε2, e3, nx2⟩ := hbody
          rw [e3]
          exact for_sim hg hbd hb hl hs rest restD (i + 1) m S2 ε2 τ2 hd' (by simp at hm; omega) rs (nx2.trans nx.ln nx.kp nx.lo h1)
        | rt t2 => obtain ⟨S2, d2, e3, x2⟩ := hbody; rw [e3]; exact ⟨S2, d2, rfl, fun k o hk e => x2.1 k o hk (nx.lo k o hk e), x2.2.1, Nat.le_trans nx.ln x2.2.2⟩
        | ex c τ2 => obtain ⟨S2, d2, e3, x2⟩ := hbody; rw [e3]; exact ⟨S2, d2, rfl, x2.trans nx.ln nx.kp nx.lo h1⟩
      | exc c => trivial
      | bad => trivial
theorem ss_for {it : IDen} {ι : TIt} {g : GDen} {h : DL.TG} (hi : SndI j it ι) (hg : SndG j g h) (hbd : SndS j j a q) : SndS j j (sFor it g a) (tsFor ι h q) := fun B Φ n S ε τ ow hb hl =>
  OkF.sE ow hb (hi _ S ε τ ow.env (ow.bnd (bnd_of hb hl))) fun S1 src ts p1 ⟨ds, r1, rs⟩ => by
    simp only [r1 S1 Keep.refl]
    exact for_sim hg hbd hb (Nat.le_trans hl p1.length_le) r1 ts ds 0 (ds.length + 1) S1 ε τ rfl (Nat.lt_succ_self _) rs (nx_here (ow.keep p1))
def FreshE (x : Den) (p : TDen) : Prop := ∀ Φ S ε τ, EnvR Φ none S ε τ → Bnd Φ S → ∀ t, p τ = .ok t → ∃ S' n ds ts, x ε S = .ok (.ref n) S' ∧ S <+: S' ∧ S.length ≤ n ∧ S'[n]? = some (.lst ds) ∧ t = .lst ts ∧ Rds (plus Φ n) S' ds ts
theorem fresh_of {ds : List D} {ts : List T} (p : S <+: S1) (r : Rds Φ S1 ds ts) : S <+: S1 ++ [.lst ds] ∧ S.length ≤ S1.length ∧ (S1 ++ [O.lst ds])[S1.length]? = some (.lst ds) ∧ Rds (plus Φ S1.length) (S1 ++ [.lst ds]) ds ts :=
  ⟨p.trans (List.prefix_append _ _), p.length_le, by simp, (r.keep (fun k hk q => q.elim id fun q => by omega) fun _ _ _ e => e).pre (List.prefix_append _ _)⟩
theorem fresh_lst {as : DenA} {qs : TDenA} (hs : SndA none as qs) : FreshE (dLst as) (tLst qs) := fun Φ S ε τ er hB t e => by
  have h := hs Φ S ε τ er hB
  unfold tLst at e
  cases e1 : qs τ with
  | ok ts =>
    rw [e1] at h e
    obtain ⟨S1, ds, e2, p, rs⟩ := h
    simp only [RT.bind_ok] at e
    split at e
    · rename_i hn
      cases e
      obtain ⟨a1, a2, a3, a4⟩ := fresh_of p rs
      exact ⟨_, _, ds, ts, by simp only [dLst, e2, R.bind_ok, mkLst, rs.len, if_pos hn], a1, a2, a3, rfl, a4⟩
    · cases e
  | exc c => rw [e1] at e; cases e
  | bad => rw [e1] at e; cases e
theorem fresh_lc {it : IDen} {ι : TIt} {g : GDen} {h : DL.TG} {e : Den} {x : TDen} {vs : List Nat} {ba : DenB} (hi : SndI none it ι) (hg : SndG none g h) (hc : SndB none ba γ) (he : SndE none e x) : FreshE (dLc it g ba e vs) (tLc ι h γ x vs) := fun Φ S ε τ er hB t et => by
  have h0 := hi Φ S ε τ er hB
  unfold tLc at et
  cases e1 : ι τ with
  | ok ts =>
    rw [e1] at h0 et
    obtain ⟨S1, src, e2, p1, ds, r1, rs⟩ := h0
    have h2 := lc_sim hg hc he (vs := vs) ts [] ds [] 0 (ds.length + 1) S1 rfl (Nat.zero_le _) (Nat.lt_succ_self _) r1 rs .nil (er.pre p1) (hB.pre p1)
    simp only [RT.bind_ok] at et
    cases e3 : tlcI h γ x vs τ ts [] with
    | ok us =>
      rw [e3] at h2 et
      obtain ⟨S2, ws, e4, p2, r2⟩ := h2
      cases et
      obtain ⟨a1, a2, a3, a4⟩ := fresh_of (p1.trans p2) r2
      exact ⟨_, _, ws, us, by simp only [dLc, e2, R.bind_ok, r1 S1 Keep.refl, e4, lcEnd], a1, a2, a3, rfl, a4⟩
    | exc c => rw [e3] at et; cases et
    | bad => rw [e3] at et; cases et
  | exc c => rw [e1] at et; cases et
  | bad => rw [e1] at et; cases et
def tsOwn (p : TDen) (i : Nat) : TSDen := fun τ => tsE (p τ) τ fun t => if i < τ.length then .ok (.nx (τ.set i (some t))) else .bad
theorem ss_own (i : Nat) (hx : SndE none x p) (hf : FreshE x p) : SndS none (some i) (sAsg x (gN i)) (tsOwn p i) := fun B Φ n S ε τ ow hb hl => by
  have ow' : EnvR Φ none S ε τ := ow
  have h := hx Φ S ε τ ow' (bnd_of hb hl)
  unfold sAsg tsOwn
  cases e : p τ with
  | ok t =>
    obtain ⟨S', n', ds, ts, e1, p1, hn, e2, rfl, rs⟩ := hf Φ S ε τ ow' (bnd_of hb hl) t e
    rw [e1]
    show OkF B Φ none n S (some i) (.ok (.nx (ε.set i (some (.ref n')))) S') (if i < τ.length then .ok (.nx (τ.set i (some (.lst ts)))) else .bad)
    have er := ow'.pre p1
    have hn' : n' < S'.length := (List.getElem?_eq_some_iff.mp e2).1
    split
    · rename_i hi
      refine ⟨S', _, rfl, p1.length_le, Keep.pre p1, fun k o _ e => ?_, n', ⟨Nat.le_trans hl hn, hn', ⟨ds, ts, by rw [List.getElem?_set_self (by rw [er.len]; exact hi)], e2, rs, by rw [List.getElem?_set_self hi]⟩, ⟨by rw [List.length_set, List.length_set]; exact er.len, fun k u hk eu => ?_⟩⟩, .inr (.inl hn)⟩
      · obtain ⟨E, rfl⟩ := p1
        rw [List.getElem?_append_left (List.getElem?_eq_some_iff.mp e).1]
        exact e
      · have hk' : i ≠ k := fun z => hk (by rw [z])
        rw [List.getElem?_set_ne hk'] at eu ⊢
        obtain ⟨d, e3, e4⟩ := ow'.at_ k u (by simp) eu
        exact ⟨d, e3, (e4.keep (fun k hk q => q.elim id fun q => by omega) fun _ _ _ e => e).pre p1⟩
    · trivial
  | exc c =>
    rw [e] at h
    obtain ⟨S', e1, p1⟩ := h
    rw [e1]
    exact OkF.upp (q := .ok (.ex c τ)) p1 ⟨S', ε, rfl, nx_here (ow'.pre p1)⟩
  | bad => trivial
theorem own_put {i : Nat} {ds : List D} {ts : List T} (hB : B ≤ n) (hn : n < S.length) (e1 : ε[i]? = some (some (.ref n))) (e4 : ∃ t, τ[i]? = some (some t)) (er : EnvR (plus Φ n) (some i) S ε τ) (rs : Rds (plus Φ n) S ds ts) :
    NxR B Φ (some i) n S (some i) (S.set n (.lst ds)) ε (τ.set i (some (.lst ts))) := by
  have kp : Keep (plus Φ n) S (S.set n (.lst ds)) := fun k o hk e => by
    rw [List.getElem?_set_ne fun z => hk (.inr z.symm)]
    exact e
  obtain ⟨t, e4⟩ := e4
  have hi : i < τ.length := (List.getElem?_eq_some_iff.mp e4).1
  refine ⟨by rw [List.length_set]; exact Nat.le_refl _, kp, fun k o hk e => by rw [List.getElem?_set_ne (by omega)]; exact e, n, ⟨hB, by rw [List.length_set]; exact hn, ⟨ds, ts, e1, by rw [List.getElem?_set_self hn], rs.keep (fun _ _ q => q) kp, by rw [List.getElem?_set_self hi]⟩, ⟨by rw [List.length_set]; exact er.len, fun k u hk eu => ?_⟩⟩, .inl ⟨rfl, rfl⟩⟩
  have hk' : i ≠ k := fun z => hk (by rw [z])
  rw [List.getElem?_set_ne hk'] at eu
  obtain ⟨d, e3, e5⟩ := er.at_ k u hk eu
  exact ⟨d, e3, e5.keep (fun _ _ q => q) kp⟩
def tsApp (i : Nat) (p : TDen) : TSDen := fun τ => match τ[i]? with
  | some (some (.lst ts)) => tsE (p τ) τ fun t => if ts.length < big then .ok (.nx (τ.set i (some (.lst (ts ++ [t]))))) else .bad
  | _ => .bad
theorem sE_bind {α β : Type} {r : R α} {k : α → Sto → R β} {l : β → Sto → R Fl} : DL.sE (r.bind k) ε l = DL.sE r ε fun d S => DL.sE (k d S) ε l := by
  cases r <;> rfl
theorem ss_app {i : Nat} (hx : SndE (some i) x p) : SndS (some i) (some i) (sExpr (dAppend (dVar i) x)) (tsApp i p) := fun B Φ n S ε τ ow hb hl => by
  have ow0 := ow
  obtain ⟨h1, h2, ⟨ds, ts, a1, a2, a3, a4⟩, h4⟩ := ow
  have l1 : lstAt S (.ref n) = some (n, ds) := by simp only [lstAt, a2]
  simp only [sExpr, dAppend, x_Var a1, R.bind_ok, l1, tsApp, a4, sE_bind]
  refine OkF.sE ow0 hb (hx _ S ε τ h4 (ow0.bnd (bnd_of hb hl))) fun S1 d t p1 r1 => ?_
  obtain ⟨b1, b2, ⟨ds', ts', c1, c2, c3, c4⟩, c5⟩ := ow0.keep p1
  rw [a4] at c4
  cases c4
  have l2 : lstAt S1 (.ref n) = some (n, ds') := by simp only [lstAt, c2]
  simp only [l2, c3.len]
  split
  · exact ⟨_, ε, rfl, own_put h1 b2 a1 ⟨_, a4⟩ c5 (c3.app (.cons r1 .nil))⟩
  · trivial
def tsExt (i : Nat) (p : TDen) : TSDen := fun τ => match τ[i]? with
  | some (some (.lst ts)) => tsE (p τ) τ fun t => match t with
    | .lst us => if ts.length + us.length ≤ big then .ok (.nx (τ.set i (some (.lst (ts ++ us))))) else .bad
    | _ => .bad
  | _ => .bad
theorem ss_ext {i : Nat} (hx : SndE (some i) x p) : SndS (some i) (some i) (sExpr (dExtend (dVar i) x)) (tsExt i p) := fun B Φ n S ε τ ow hb hl => by
  have ow0 := ow
  obtain ⟨h1, h2, ⟨ds, ts, a1, a2, a3, a4⟩, h4⟩ := ow
  have l1 : lstAt S (.ref n) = some (n, ds) := by simp only [lstAt, a2]
  simp only [sExpr, dExtend, x_Var a1, R.bind_ok, l1, tsExt, a4, sE_bind]
  refine OkF.sE ow0 hb (hx _ S ε τ h4 (ow0.bnd (bnd_of hb hl))) fun S1 d t p1 r1 => ?_
  obtain ⟨b1, b2, ⟨ds', ts', c1, c2, c3, c4⟩, c5⟩ := ow0.keep p1
  rw [a4] at c4
  cases c4
  have l2 : lstAt S1 (.ref n) = some (n, ds') := by simp only [lstAt, c2]
  cases r1 with
  | lst h e rs =>
    simp only [l2, lstAt, e, c2, c3.len, rs.len]
    split
    · exact ⟨_, ε, rfl, own_put h1 b2 a1 ⟨_, a4⟩ c5 (c3.app rs)⟩
    · trivial
  | _ => trivial
def tsReown (i : Nat) (p : TDen) : TSDen := fun τ => match τ[i]? with
  | some (some (.lst ts)) => tsE (p τ) τ fun t => match t with
    | .lst us => if (ts ++ us).length ≤ big then .ok (.nx (τ.set i (some (.lst (ts ++ us))))) else .bad
    | _ => .bad
  | _ => .bad
theorem ss_reown {i : Nat} (hx : SndE (some i) x p) : SndS (some i) (some i) (sAsg (dBin oAdd (dVar i) x) (gN i)) (tsReown i p) := fun B Φ n S ε τ ow hb hl => by
  have ow0 := ow
  obtain ⟨h1, h2, ⟨ds, ts, a1, a2, a3, a4⟩, h4⟩ := ow
  simp only [sAsg, dBin, x_Var a1, R.bind_ok, tsReown, a4, sE_bind]
  refine OkF.sE ow0 hb (hx _ S ε τ h4 (ow0.bnd (bnd_of hb hl))) fun S1 d t p1 r1 => ?_
  obtain ⟨b1, b2, ⟨ds', ts', c1, c2, c3, c4⟩, c5⟩ := ow0.keep p1
  rw [a4] at c4
  cases c4
  cases r1 with
  | @lst m es us h e rs =>
    simp only [oAdd, c2, e, mkLst, (c3.app rs).len]
    split
    · simp only [x_sE, x_gN]
      refine ⟨_, _, rfl, ?_⟩
      have hi : i < τ.length := (List.getElem?_eq_some_iff.mp a4).1
      have hi' : i < ε.length := (List.getElem?_eq_some_iff.mp a1).1
      have pre : S1 <+: S1 ++ [O.lst (ds' ++ es)] := List.prefix_append _ _
      refine ⟨pre.length_le, Keep.pre pre, fun k o hk e => ?_, S1.length, ⟨by omega, by simp, ⟨ds' ++ es, ts ++ us, by rw [List.getElem?_set_self hi'], by simp, ?_, by rw [List.getElem?_set_self hi]⟩, ⟨by simp [c5.len], fun k u hk eu => ?_⟩⟩, .inr (.inl (Nat.le_refl _))⟩
      · rw [List.getElem?_append_left (List.getElem?_eq_some_iff.mp e).1]
        exact e
      · exact ((c3.app rs).keep (fun k hk q => by rcases q with q | rfl; exact .inl q; omega) fun _ _ _ e => e).pre pre
      · have hk' : i ≠ k := fun z => hk (by rw [z])
        rw [List.getElem?_set_ne hk'] at eu ⊢
        obtain ⟨d, e3, e5⟩ := c5.at_ k u hk eu
        exact ⟨d, e3, (e5.keep (fun k hk q => by rcases q with q | rfl; exact .inl q; omega) fun _ _ _ e => e).pre pre⟩
    · trivial
  | _ => trivial
def trun (np nN : Nat) (q : TSDen) : TFn := fun ts => if ts.length = np then (match q (ts.map some ++ List.replicate (nN - np) none) with
  | .ok (.nx _) => .ok .non
  | .ok (.rt t) => .ok t
  | .ok (.ex c _) => .exc c
  | _ => .bad) else .bad
theorem pre_ofT {α : Type} : ∀ {l m : List α}, l.length ≤ m.length → (∀ (k : Nat) (o : α), k < l.length → l[k]? = some o → m[k]? = some o) → l <+: m
  | [], m, _, _ => List.nil_prefix
  | a :: l, [], h, _ => by simp at h
  | a :: l, b :: m, h, k => by
    have e : b = a := by simpa using k 0 a (by simp) rfl
    rw [e]
    exact (List.prefix_cons_inj a).mpr (pre_ofT (by simpa using h) fun i o hi ho => by simpa using k (i + 1) o (by simpa using hi) (by simpa using ho))
theorem env_start : ∀ {ds : List D} {ts : List T}, Rds Φ S ds ts → ∀ m : Nat, EnvR Φ none S (ds.map some ++ List.replicate m none) (ts.map some ++ List.replicate m none) := fun {ds ts} r m => by
  refine ⟨by simp [r.len], fun i t _ e => ?_⟩
  by_cases h : i < ts.length
  · rw [List.getElem?_append_left (by simpa using h), List.getElem?_map] at e
    obtain ⟨u, e1, e2⟩ := Option.map_eq_some_iff.mp e
    cases e2
    obtain ⟨d, e3, e4⟩ := r.get e1
    exact ⟨d, by rw [List.getElem?_append_left (by simpa [r.len] using h), List.getElem?_map, e3]; rfl, e4⟩
  · rw [List.getElem?_append_right (by simpa using Nat.le_of_not_lt h), List.getElem?_replicate] at e
    split at e <;> cases e
theorem fn_T {np nN : Nat} (h : SndS none j' a q) : FnT (runFn np nN a) (trun np nN q) := fun Φ S ds ts r hB => by
  unfold runFn trun
  rw [r.len]
  split
  · have h1 := h S.length Φ 0 S _ _ (show OwnR S.length Φ none 0 S _ _ from env_start r (nN - np)) hB (Nat.le_refl _)
    cases e : q (ts.map some ++ List.replicate (nN - np) none) with
    | ok f =>
      rw [e] at h1
      cases f with
      | nx τ' => obtain ⟨S', ε', e1, nx⟩ := h1; rw [e1]; exact ⟨S', _, rfl, pre_ofT nx.ln fun k o hk e => nx.lo k o hk e, .non⟩
      | rt t => obtain ⟨S', d, e1, lo, r1, ln⟩ := h1; rw [e1]; exact ⟨S', d, rfl, pre_ofT ln fun k o hk e => lo k o hk e, r1⟩
      | ex c τ' => obtain ⟨S', ε', e1, nx⟩ := h1; rw [e1]; exact ⟨S', rfl, pre_ofT nx.ln fun k o hk e => nx.lo k o hk e⟩
    | exc c => trivial
    | bad => trivial
  · trivial
end
def FnAt (f : Fn) (ts : List T) (r : RT T) : Prop := ∀ Φ S ds, Rds Φ S ds ts → Bnd Φ S → OkR Rd Φ S (f ds S) r
open Classical in
noncomputable def tv (f : Fn) : TFn := fun ts => if h : ∃ t, FnAt f ts (.ok t) then .ok h.choose else if h : ∃ c, FnAt f ts (.exc c) then .exc h.choose else .bad
theorem tv_T (f : Fn) : FnT f (tv f) := fun Φ S ds ts r hB => by
  unfold tv
  split
  · rename_i h; exact h.choose_spec Φ S ds r hB
  · split
    · rename_i h; exact h.choose_spec Φ S ds r hB
    · trivial
mutual
theorem lay_T : ∀ (t : T) (S : Sto), ∃ S' d, S <+: S' ∧ Rd (fun _ => False) S' d t
  | .non, S => ⟨S, _, List.prefix_rfl, .non⟩
  | .bl b, S => ⟨S, _, List.prefix_rfl, .bl b⟩
  | .int i, S => ⟨S, _, List.prefix_rfl, .int i⟩
  | .str x, S => ⟨S, _, List.prefix_rfl, .str x⟩
  | .tup ts, S => let ⟨S', ds, p, r⟩ := lay_Ts ts S; ⟨S', _, p, .tup r⟩
  | .seq ts, S => let ⟨S', ds, p, r⟩ := lay_Ts ts S; ⟨S', _, p, .seq r⟩
  | .lst ts, S => let ⟨S', ds, p, r⟩ := lay_Ts ts S; ⟨S' ++ [.lst ds], .ref S'.length, p.trans (List.prefix_append _ _), .lst id (by simp) (r.pre (List.prefix_append _ _))⟩
  | .dct ts, S => let ⟨S', ds, p, r⟩ := lay_Tk ts S; ⟨S' ++ [.dct ds], .ref S'.length, p.trans (List.prefix_append _ _), .dct id (by simp) (r.pre (List.prefix_append _ _))⟩
theorem lay_Ts : ∀ (t : List T) (S : Sto), ∃ S' d, S <+: S' ∧ Rds (fun _ => False) S' d t
  | [], S => ⟨S, _, List.prefix_rfl, .nil⟩
  | t :: ts, S => let ⟨S1, d, p1, r1⟩ := lay_T t S; let ⟨S2, ds, p2, r2⟩ := lay_Ts ts S1; ⟨S2, _, p1.trans p2, .cons (r1.pre p2) r2⟩
theorem lay_Tk : ∀ (t : List (Key × T)) (S : Sto), ∃ S' d, S <+: S' ∧ Rdk (fun _ => False) S' d t
  | [], S => ⟨S, _, List.prefix_rfl, .nil⟩
  | (k, t) :: ts, S => let ⟨S1, d, p1, r1⟩ := lay_T t S; let ⟨S2, ds, p2, r2⟩ := lay_Tk ts S1; ⟨S2, _, p1.trans p2, .cons (r1.pre p2) r2⟩
end
theorem FnAt.one {f : Fn} {ts : List T} {r r' : RT T} (h : FnAt f ts r) (h' : FnAt f ts r') : r = .bad ∨ r' = .bad ∨ r = r' := by
  obtain ⟨S, ds, _, rs⟩ := lay_Ts ts []
  have a := h _ S ds rs (fun _ q => q.elim)
  have b := h' _ S ds rs (fun _ q => q.elim)
  cases r with
  | ok t =>
    obtain ⟨S1, d1, e1, _, r1⟩ := a
    cases r' with
    | ok u =>
      obtain ⟨S2, d2, e2, _, r2⟩ := b
      rw [e1] at e2
      cases e2
      rw [r1.one r2]
      exact .inr (.inr rfl)
    | exc c => obtain ⟨S2, e2, _⟩ := b; rw [e1] at e2; cases e2
    | bad => exact .inr (.inl rfl)
  | exc c =>
    obtain ⟨S1, e1, _⟩ := a
    cases r' with
    | ok u => obtain ⟨S2, d2, e2, _⟩ := b; rw [e1] at e2; cases e2
    | exc c => obtain ⟨S2, e2, _⟩ := b; rw [e1] at e2; cases e2; exact .inr (.inr rfl)
    | bad => exact .inr (.inl rfl)
  | bad => exact .inl rfl
theorem tv_at (f : Fn) (ts : List T) : FnAt f ts (tv f ts) := fun Φ S ds r hB => tv_T f Φ S ds ts r hB
theorem tv_eq {f : Fn} {ts : List T} {r : RT T} (h : FnAt f ts r) (hr : r ≠ .bad) : tv f ts = r := by
  rcases FnAt.one h (tv_at f ts) with e | e | e
  · exact absurd e hr
  · exfalso
    unfold tv at e
    cases r with
    | ok t => rw [dif_pos ⟨t, h⟩] at e; cases e
    | exc c =>
      split at e
      · cases e
      · rw [dif_pos ⟨c, h⟩] at e; cases e
    | bad => exact hr rfl
  · exact e.symm
theorem tv_ok {f : Fn} {ts : List T} {t : T} (h : FnAt f ts (.ok t)) : tv f ts = .ok t := tv_eq h (fun z => by cases z)
theorem FnT.at {f : Fn} {q : TFn} (h : FnT f q) (ts : List T) : FnAt f ts (q ts) := fun Φ S ds r hB => h Φ S ds ts r hB
theorem tv_of {f : Fn} {q : TFn} {ts : List T} {r : RT T} (h : FnT f q) (e : q ts = r) (hr : r ≠ .bad) : tv f ts = r := tv_eq (e ▸ h.at ts) hr
end DL

set_option Elab.async false
set_option linter.all false
set_option maxRecDepth 100000
set_option maxHeartbeats 1000000
namespace DL
open PySem L2
mutual
def unT : T → D
  | .non => .non | .bl b => .bl b | .int i => .int i | .str s => .str s
  | .tup ts => .tup (unTs ts)
  | .seq ts => .seq (unTs ts)
  | .lst _ => .non
  | .dct _ => .non
def unTs : List T → List D
  | [] => []
  | t :: ts => unT t :: unTs ts
end
mutual
def plT : T → Bool
  | .non => true | .bl _ => true | .int _ => true | .str _ => true
  | .tup ts => plTs ts
  | .seq ts => plTs ts
  | .lst _ => false
  | .dct _ => false
def plTs : List T → Bool
  | [] => true
  | t :: ts => plT t && plTs ts
end
section
variable {Φ : Nat → Prop} {S : Sto}
mutual
theorem rd_pl : ∀ {t : T}, plT t = true → Rd Φ S (unT t) t
  | .non, _ => .non
  | .bl b, _ => .bl b
  | .int i, _ => .int i
  | .str x, _ => .str x
  | .tup ts, h => .tup (rds_pl h)
  | .seq ts, h => .seq (rds_pl h)
  | .lst _, h => by cases h
  | .dct _, h => by cases h
theorem rds_pl : ∀ {t : List T}, plTs t = true → Rds Φ S (unTs t) t
  | [], _ => .nil
  | t :: ts, h => by
    unfold plTs at h
    rw [Bool.and_eq_true] at h
    exact .cons (rd_pl h.1) (rds_pl h.2)
end
mutual
theorem of_pl : ∀ {t : T} {d : D}, plT t = true → Rd Φ S d t → d = unT t
  | .non, _, _, .non => rfl
  | .bl b, _, _, .bl _ => rfl
  | .int i, _, _, .int _ => rfl
  | .str x, _, _, .str _ => rfl
  | .tup ts, _, h, .tup r => by rw [ofs_pl (show plTs ts = true from h) r]; rfl
  | .seq ts, _, h, .seq r => by rw [ofs_pl (show plTs ts = true from h) r]; rfl
theorem ofs_pl : ∀ {t : List T} {d : List D}, plTs t = true → Rds Φ S d t → d = unTs t
  | [], _, _, .nil => rfl
  | t :: ts, _, h, .cons r rs => by
    unfold plTs at h
    rw [Bool.and_eq_true] at h
    rw [of_pl h.1 r, ofs_pl h.2 rs]
    rfl
end
theorem unTs_map : ∀ ts : List T, unTs ts = ts.map unT
  | [] => rfl
  | t :: ts => by rw [unTs, unTs_map ts]; rfl
theorem plTs_iff : ∀ {ts : List T}, plTs ts = true ↔ ∀ t ∈ ts, plT t = true
  | [] => by simp [plTs]
  | t :: ts => by simp [plTs, plTs_iff (ts := ts)]
end
theorem tv_pur {f : Fn} {ts : List T} {t : T} (h : Pur (f (unTs ts)) (unT t)) (hs : plTs ts = true) (ht : plT t = true) : tv f ts = .ok t := tv_ok fun Φ S es r hB => by
  rw [ofs_pl hs r]
  obtain ⟨E, e⟩ := h S
  exact ⟨_, _, e, List.prefix_append _ _, rd_pl ht⟩
def tscr (ns : List Int) : T := .seq (ns.map .int)
def tstrs (xs : List Str) : T := .tup (xs.map .str)
def lints (xs : List Int) : T := .lst (xs.map .int)
mutual
def encT : Deed → T
  | .num i => .tup [.str "number", .int i]
  | .nam x => .tup [.str "name", .str x]
  | .dod x => .tup [.str "do", .str x]
  | .ask => .tup [.str "ask"]
  | .rd x => .tup [.str "read", .str x]
  | .wr x a => .tup [.str "write", .str x, encT a]
  | .say a => .tup [.str "say", encT a]
  | .lt x a b => .tup [.str "let", .str x, encT a, encT b]
  | .own x a b => .tup [.str "own", .str x, encT a, encT b]
  | .iff a b c => .tup [.str "if", encT a, encT b, encT c]
  | .two w a b => .tup [.str w.w, encT a, encT b]
  | .call i ps hs => .tup [.str "call", .int i, .tup (encTs ps), .tup (encTs hs)]
def encTs : List Deed → List T
  | [] => []
  | d :: ds => encT d :: encTs ds
end
theorem encTs_map : ∀ ds : List Deed, encTs ds = ds.map encT
  | [] => rfl
  | d :: ds => by rw [encTs, encTs_map ds]; rfl
mutual
theorem unT_enc : ∀ d : Deed, unT (encT d) = enc d ∧ plT (encT d) = true
  | .num i => ⟨rfl, rfl⟩
  | .nam x => ⟨rfl, rfl⟩
  | .dod x => ⟨rfl, rfl⟩
  | .ask => ⟨rfl, rfl⟩
  | .rd x => ⟨rfl, rfl⟩
  | .wr x a => by simp [encT, enc, unT, unTs, plT, plTs, unT_enc a]
  | .say a => by simp [encT, enc, unT, unTs, plT, plTs, unT_enc a]
  | .lt x a b => by simp [encT, enc, unT, unTs, plT, plTs, unT_enc a, unT_enc b]
  | .own x a b => by simp [encT, enc, unT, unTs, plT, plTs, unT_enc a, unT_enc b]
  | .iff a b c => by simp [encT, enc, unT, unTs, plT, plTs, unT_enc a, unT_enc b, unT_enc c]
  | .two w a b => by simp [encT, enc, unT, unTs, plT, plTs, unT_enc a, unT_enc b]
  | .call i ps hs => by simp [encT, enc, unT, unTs, plT, plTs, unTs_enc ps, unTs_enc hs]
theorem unTs_enc : ∀ d : List Deed, unTs (encTs d) = encs d ∧ plTs (encTs d) = true
  | [] => ⟨rfl, rfl⟩
  | d :: ds => by simp [encTs, encs, unTs, plTs, unT_enc d, unTs_enc ds]
end
theorem unT_strs (xs : List Str) : unT (tstrs xs) = tstr xs ∧ plT (tstrs xs) = true := by
  unfold tstrs tstr
  refine ⟨?_, ?_⟩
  · rw [unT, unTs_map, List.map_map]; rfl
  · rw [plT, plTs_iff]; intro t ht; obtain ⟨x, _, rfl⟩ := List.mem_map.mp ht; rfl
theorem unT_scr (xs : List Int) : unT (tscr xs) = scr xs ∧ plT (tscr xs) = true := by
  unfold tscr scr
  refine ⟨?_, ?_⟩
  · rw [unT, unTs_map, List.map_map]; rfl
  · rw [plT, plTs_iff]; intro t ht; obtain ⟨x, _, rfl⟩ := List.mem_map.mp ht; rfl
def encRT (r : Rule) : T := .tup [tstrs r.ns, tstrs r.hs, encT r.b]
def encRsT (rs : List Rule) : T := .tup (rs.map encRT)
theorem unT_rule (r : Rule) : unT (encRT r) = encR r ∧ plT (encRT r) = true := by
  unfold encRT encR
  refine ⟨?_, ?_⟩
  · simp only [unT, unTs, (unT_strs _).1, (unT_enc _).1]
  · simp only [plT, plTs, (unT_strs _).2, (unT_enc _).2]; rfl
theorem unT_rules (rs : List Rule) : unT (encRsT rs) = encRs rs ∧ plT (encRsT rs) = true := by
  unfold encRsT encRs
  refine ⟨?_, ?_⟩
  · rw [unT, unTs_map, List.map_map]
    congr 1
    exact List.map_congr_left fun r _ => (unT_rule r).1
  · rw [plT, plTs_iff]; intro t ht; obtain ⟨x, _, rfl⟩ := List.mem_map.mp ht; exact (unT_rule x).2
theorem rd_ints {Φ : Nat → Prop} {S : Sto} (xs : List Int) : Rds Φ S (xs.map .int) (xs.map .int) := Rds.maps fun _ _ => .int _
theorem drawn_T (n : Nat) (ns : List Int) (k m : Int) (hk : 0 ≤ k) (hm : 0 < m) (hl : ns.length ≤ 63) (hn : 3 ≤ n := by omega) : tv (csem n .f__law_drawn) [tscr ns, .int k, .int m] = .ok (.int (drw ns k m)) := by
  obtain ⟨n, rfl⟩ : ∃ j, n = j + 3 := ⟨n - 3, by omega⟩
  refine tv_pur ?_ (by simp [plTs, (unT_scr ns).2, plT]) rfl
  simp only [unTs, (unT_scr ns).1, unT]
  exact drawn_sem n ns k m hk hm hl
end DL

set_option Elab.async false
set_option linter.all false
set_option maxRecDepth 100000
set_option maxHeartbeats 1000000
namespace DL
open PySem L2
abbrev Om := List (Str × T)
inductive Rdf (Φ : Nat → Prop) (S : Sto) : List (Str × D) → Om → Prop
  | nil : Rdf Φ S [] []
  | cons {k : Str} {d : D} {ds : List (Str × D)} {t : T} {ts : Om} : Rd Φ S d t → Rdf Φ S ds ts → Rdf Φ S ((k, d) :: ds) ((k, t) :: ts)
theorem Rdf.keep {Φ Ψ : Nat → Prop} {S S' : Sto} (hΦ : ∀ n, n < S.length → Ψ n → Φ n) (hS : ∀ (n : Nat) (o : O), ¬ Φ n → S[n]? = some o → S'[n]? = some o) : ∀ {ds : List (Str × D)} {ts : Om}, Rdf Φ S ds ts → Rdf Ψ S' ds ts
  | _, _, .nil => .nil
  | _, _, .cons h t => .cons (h.keep hΦ hS) (Rdf.keep hΦ hS t)
theorem Rdf.len {Φ : Nat → Prop} {S : Sto} : ∀ {ds : List (Str × D)} {ts : Om}, Rdf Φ S ds ts → ds.length = ts.length
  | _, _, .nil => rfl
  | _, _, .cons _ t => congrArg (· + 1) (Rdf.len t)
def putFT (f : Str) (v : T) : Om → Om
  | [] => [(f, v)]
  | (g, x) :: r => if g = f then (g, v) :: r else (g, x) :: putFT f v r
theorem Rdf.put {Φ : Nat → Prop} {S : Sto} (f : Str) {d : D} {t : T} (r : Rd Φ S d t) : ∀ {ds : List (Str × D)} {ts : Om}, Rdf Φ S ds ts → Rdf Φ S (putFD f d ds) (putFT f t ts)
  | _, _, .nil => .cons r .nil
  | _, _, .cons (k := k) h q => by
    unfold putFD putFT
    split
    · exact .cons r q
    · exact .cons h (Rdf.put f r q)
def ObR (Φ : Nat → Prop) (m : Nat) (c : Str) (S : Sto) (ω : Om) : Prop := ∃ fs, S[m]? = some (.ins c fs) ∧ Rdf (plus Φ m) S fs ω
def Kp (m : Nat) (S S' : Sto) : Prop := S.length ≤ S'.length ∧ ∀ (n : Nat) (o : O), n ≠ m → S[n]? = some o → S'[n]? = some o
theorem Kp.refl {m : Nat} {S : Sto} : Kp m S S := ⟨Nat.le_refl _, fun _ _ _ e => e⟩
theorem Kp.trans {m : Nat} {S S1 S2 : Sto} (a : Kp m S S1) (b : Kp m S1 S2) : Kp m S S2 := ⟨Nat.le_trans a.1 b.1, fun n o h e => b.2 n o h (a.2 n o h e)⟩
theorem Kp.pre {m : Nat} {S S' : Sto} (p : S <+: S') : Kp m S S' := ⟨p.length_le, fun n o _ e => by
  obtain ⟨E, rfl⟩ := p
  rw [List.getElem?_append_left (List.getElem?_eq_some_iff.mp e).1]
  exact e⟩
section
variable {Φ : Nat → Prop} {m : Nat} {S S' : Sto}
theorem Rd.kp (p : Kp m S S') {d : D} {t : T} (h : Rd (plus Φ m) S d t) : Rd (plus Φ m) S' d t := h.keep (fun _ _ q => q) fun n o hn e => p.2 n o (fun z => hn (.inr z)) e
theorem Rds.kp (p : Kp m S S') {d : List D} {t : List T} (h : Rds (plus Φ m) S d t) : Rds (plus Φ m) S' d t := h.keep (fun _ _ q => q) fun n o hn e => p.2 n o (fun z => hn (.inr z)) e
theorem EnvR.kp (p : Kp m S S') {j : Option Nat} {ε : Env} {τ : TEnv} (h : EnvR (plus Φ m) j S ε τ) : EnvR (plus Φ m) j S' ε τ := h.keep (fun _ _ q => q) fun n o hn e => p.2 n o (fun z => hn (.inr z)) e
theorem ObR.pre {c : Str} {ω : Om} (p : S <+: S') (h : ObR Φ m c S ω) : ObR Φ m c S' ω := by
  obtain ⟨fs, e, r⟩ := h
  obtain ⟨E, rfl⟩ := p
  exact ⟨fs, by rw [List.getElem?_append_left (List.getElem?_eq_some_iff.mp e).1]; exact e, r.keep (fun _ _ q => q) fun n o _ e => by rw [List.getElem?_append_left (List.getElem?_eq_some_iff.mp e).1]; exact e⟩
theorem Bnd.kp (h : Bnd (plus Φ m) S) (p : Kp m S S') : Bnd (plus Φ m) S' := fun n q => Nat.lt_of_lt_of_le (h n q) p.1
end
def OkR2 {β α : Type} (Rl : RlT β α) (Φ : Nat → Prop) (m : Nat) (c : Str) (S : Sto) (r : R β) : RT (α × Om) → Prop
  | .ok (t, ω) => ∃ S' d, r = .ok d S' ∧ Kp m S S' ∧ ObR Φ m c S' ω ∧ Rl (plus Φ m) S' d t
  | .exc x => ∃ S', r = .exc x S' ∧ Kp m S S'
  | .bad => True
theorem OkR2.bind {β α β' α' : Type} {Rl : RlT β α} {Rl' : RlT β' α'} {Φ : Nat → Prop} {m : Nat} {c : Str} {S : Sto} {r : R β} {q : RT (α × Om)} {k : β → Sto → R β'} {κ : α × Om → RT (α' × Om)} (h : OkR2 Rl Φ m c S r q)
    (hk : ∀ S' d t ω, Kp m S S' → ObR Φ m c S' ω → Rl (plus Φ m) S' d t → OkR2 Rl' Φ m c S' (k d S') (κ (t, ω))) : OkR2 Rl' Φ m c S (r.bind k) (q.bind κ) := by
  cases q with
  | ok t =>
    obtain ⟨t, ω⟩ := t
    obtain ⟨S', d, rfl, p, ob, rl⟩ := h
    have := hk S' d t ω p ob rl
    simp only [R.bind_ok, RT.bind_ok]
    cases e : κ (t, ω) with
    | ok u => obtain ⟨u, ω'⟩ := u; rw [e] at this; obtain ⟨S2, d2, e2, p2, ob2, r2⟩ := this; exact ⟨S2, d2, e2, p.trans p2, ob2, r2⟩
    | exc c => rw [e] at this; obtain ⟨S2, e2, p2⟩ := this; exact ⟨S2, e2, p.trans p2⟩
    | bad => trivial
  | exc c => obtain ⟨S', rfl, p⟩ := h; exact ⟨S', rfl, p⟩
  | bad => trivial
theorem OkR2.here {β α : Type} {Rl : RlT β α} {Φ : Nat → Prop} {m : Nat} {c : Str} {S : Sto} {d : β} {t : α} {ω : Om} (ob : ObR Φ m c S ω) (h : Rl (plus Φ m) S d t) : OkR2 Rl Φ m c S (.ok d S) (.ok (t, ω)) := ⟨S, d, rfl, Kp.refl, ob, h⟩
theorem OkR2.of {β α : Type} {Rl : RlT β α} {Φ : Nat → Prop} {m : Nat} {c : Str} {S : Sto} {r : R β} {q : RT α} {ω : Om} (ob : ObR Φ m c S ω) (h : OkR Rl (plus Φ m) S r q) : OkR2 Rl Φ m c S r (q.bind fun t => .ok (t, ω)) := by
  cases q with
  | ok t => obtain ⟨S', d, rfl, p, rl⟩ := h; exact ⟨S', d, rfl, Kp.pre p, ob.pre p, rl⟩
  | exc x => obtain ⟨S', rfl, p⟩ := h; exact ⟨S', rfl, Kp.pre p⟩
  | bad => trivial
structure At (Φ : Nat → Prop) (m k : Nat) (c : Str) (S : Sto) (ε : Env) (τ : TEnv) (ω : Om) : Prop where
  e : EnvR (plus Φ m) (some k) S ε τ
  o : ε[k]? = some (some (.ref m))
  b : Bnd (plus Φ m) S
  f : ¬ Φ m
  r : ObR Φ m c S ω
theorem At.kp {Φ : Nat → Prop} {m k : Nat} {c : Str} {S S' : Sto} {ε : Env} {τ : TEnv} {ω ω' : Om} (h : At Φ m k c S ε τ ω) (p : Kp m S S') (ob : ObR Φ m c S' ω') : At Φ m k c S' ε τ ω' := ⟨h.e.kp p, h.o, h.b.kp p, h.f, ob⟩
abbrev ODen := TEnv → Om → RT (T × Om)
abbrev ODenB := TEnv → Om → RT (Bool × Om)
abbrev ODenA := TEnv → Om → RT (List T × Om)
def up {α : Type} (q : TEnv → RT α) : TEnv → Om → RT (α × Om) := fun τ ω => (q τ).bind fun t => .ok (t, ω)
section
variable {k : Nat} {c : Str}
variable {a b d : Den} {p q r : ODen} {as : DenA} {qs : ODenA} {ba bb : DenB} {γ δ : ODenB}
abbrev OFn := List T → Om → RT (T × Om)
theorem OkR2.noX {β α : Type} {Rl : RlT β α} {Φ : Nat → Prop} {m : Nat} {c : Str} {S : Sto} {r : R β} {q : RT (α × Om)} (h : OkR2 Rl Φ m c S r q) : OkR2 Rl Φ m c S (DL.noX r) (noXT q) := by
  cases q with
  | ok t => obtain ⟨S', d, rfl, p, rl⟩ := h; exact ⟨S', d, rfl, p, rl⟩
  | exc c => trivial
  | bad => trivial
end
end DL

set_option Elab.async false
set_option linter.all false
set_option maxRecDepth 100000
set_option maxHeartbeats 1000000
namespace DL
open PySem L2
abbrev OSDen := TEnv → Om → RT (TFl × Om)
def OkF2 (Φ : Nat → Prop) (m k : Nat) (c : Str) (S : Sto) (r : R Fl) : RT (TFl × Om) → Prop
  | .ok (.nx τ', ω) => ∃ S' ε', r = .ok (.nx ε') S' ∧ Kp m S S' ∧ At Φ m k c S' ε' τ' ω
  | .ok (.rt t, ω) => ∃ S' d, r = .ok (.rt d) S' ∧ Kp m S S' ∧ ObR Φ m c S' ω ∧ Rd (plus Φ m) S' d t
  | .ok (.ex x _, _) => ∃ S' ε', r = .ok (.ex x ε') S' ∧ Kp m S S'
  | .exc _ => True
  | .bad => True
theorem OkF2.up {Φ : Nat → Prop} {m k : Nat} {c : Str} {S S1 : Sto} {r : R Fl} {q : RT (TFl × Om)} (p : Kp m S S1) (h : OkF2 Φ m k c S1 r q) : OkF2 Φ m k c S r q := by
  cases q with
  | ok f =>
    obtain ⟨f, ω⟩ := f
    cases f with
    | nx τ => obtain ⟨S', ε', e, p', a⟩ := h; exact ⟨S', ε', e, p.trans p', a⟩
    | rt t => obtain ⟨S', ε', e, p', a⟩ := h; exact ⟨S', ε', e, p.trans p', a⟩
    | ex x τ => obtain ⟨S', ε', e, p'⟩ := h; exact ⟨S', ε', e, p.trans p'⟩
  | exc => trivial
  | bad => trivial
def osE {α : Type} (q : RT (α × Om)) (τ : TEnv) (ω : Om) (κ : α → Om → RT (TFl × Om)) : RT (TFl × Om) := match q with
  | .ok (t, ω') => κ t ω'
  | .exc x => .ok (.ex x τ, ω)
  | .bad => .bad
section
variable {k m : Nat} {c : Str} {Φ : Nat → Prop} {S : Sto} {ε : Env} {τ : TEnv} {ω : Om}
theorem OkF2.sE {β α : Type} {Rl : RlT β α} {r : R β} {q : RT (α × Om)} {kk : β → Sto → R Fl} {κ : α → Om → RT (TFl × Om)} (A : At Φ m k c S ε τ ω) (h : OkR2 Rl Φ m c S r q)
    (hk : ∀ S' d t ω', Kp m S S' → At Φ m k c S' ε τ ω' → Rl (plus Φ m) S' d t → OkF2 Φ m k c S' (kk d S') (κ t ω')) : OkF2 Φ m k c S (DL.sE r ε kk) (osE q τ ω κ) := by
  cases q with
  | ok t =>
    obtain ⟨t, ω'⟩ := t
    obtain ⟨S', d, rfl, p, ob, rl⟩ := h
    exact (hk S' d t ω' p (A.kp p ob) rl).up p
  | exc x =>
    obtain ⟨S', rfl, p⟩ := h
    exact ⟨S', ε, rfl, p⟩
  | bad => trivial
variable {a b : SDen} {q q' : OSDen} {x y : Den} {p p' : ODen} {ba : DenB} {γ : ODenB}
theorem ObR.set {Φ : Nat → Prop} {m : Nat} {c : Str} {S : Sto} {ω : Om} (h : ObR Φ m c S ω) {fs : List (Str × D)} (e : S[m]? = some (.ins c fs)) {fs' : List (Str × D)} {ω' : Om} (r : Rdf (plus Φ m) S fs' ω') : ObR Φ m c (S.set m (.ins c fs')) ω' ∧ Kp m S (S.set m (.ins c fs')) := by
  have hm : m < S.length := (List.getElem?_eq_some_iff.mp e).1
  have kp : Kp m S (S.set m (.ins c fs')) := ⟨by rw [List.length_set]; exact Nat.le_refl _, fun n o hn e => by rw [List.getElem?_set_ne (Ne.symm hn)]; exact e⟩
  exact ⟨⟨fs', by rw [List.getElem?_set_self hm], r.keep (fun _ _ q => q) fun n o hn e => kp.2 n o (fun z => hn (.inr z)) e⟩, kp⟩
end
def FnAt2 (pl : Nat) (c : Str) (f : Fn) (ts : List T) (ω : Om) (r : RT (T × Om)) : Prop := ∀ Φ m S ds, Rds (plus Φ m) S ds ts → Bnd (plus Φ m) S → ¬ Φ m → ObR Φ m c S ω → OkR2 Rd Φ m c S (f (ds.take pl ++ .ref m :: ds.drop pl) S) r
open Classical in
noncomputable def tv2 (pl : Nat) (c : Str) (f : Fn) : OFn := fun ts ω => if h : ∃ t, FnAt2 pl c f ts ω (.ok t) then .ok h.choose else if h : ∃ x, FnAt2 pl c f ts ω (.exc x) then .exc h.choose else .bad
theorem Rdf.one {Φ : Nat → Prop} {S : Sto} : ∀ {ds : List (Str × D)} {t u : Om}, Rdf Φ S ds t → Rdf Φ S ds u → t = u
  | _, _, _, .nil, .nil => rfl
  | _, _, _, .cons h t, .cons h' t' => by rw [Rd.one h h', Rdf.one t t']
theorem ObR.one {Φ : Nat → Prop} {m : Nat} {c : Str} {S : Sto} {ω ω' : Om} (h : ObR Φ m c S ω) (h' : ObR Φ m c S ω') : ω = ω' := by
  obtain ⟨fs, e, r⟩ := h
  obtain ⟨fs', e', r'⟩ := h'
  rw [e] at e'
  cases e'
  exact r.one r'
theorem lay_Tf : ∀ (t : Om) (S : Sto), ∃ S' d, S <+: S' ∧ Rdf (fun _ => False) S' d t
  | [], S => ⟨S, _, List.prefix_rfl, .nil⟩
  | (k, t) :: ts, S => let ⟨S1, d, p1, r1⟩ := lay_T t S; let ⟨S2, ds, p2, r2⟩ := lay_Tf ts S1; ⟨S2, _, p1.trans p2, .cons (r1.pre p2) r2⟩
theorem FnAt2.one {pl : Nat} {c : Str} {f : Fn} {ts : List T} {ω : Om} {r r' : RT (T × Om)} (h : FnAt2 pl c f ts ω r) (h' : FnAt2 pl c f ts ω r') : r = .bad ∨ r' = .bad ∨ r = r' := by
  obtain ⟨S1, ds, _, rs⟩ := lay_Ts ts []
  obtain ⟨S2, fs, p2, rf⟩ := lay_Tf ω S1
  have pre : S2 <+: S2 ++ [O.ins c fs] := List.prefix_append _ _
  have kk : ∀ n, n < S2.length → plus (fun _ => False) S2.length n → False := fun n hn q => by
    rcases q with q | q
    · exact q
    · omega
  have rs' : Rds (plus (fun _ => False) S2.length) (S2 ++ [.ins c fs]) ds ts := ((rs.pre p2).keep kk fun _ _ _ e => e).pre pre
  have ob : ObR (fun _ => False) S2.length c (S2 ++ [.ins c fs]) ω := ⟨fs, by simp, (rf.keep kk fun _ _ _ e => e).keep (fun _ _ q => q) fun n o _ e => by
    rw [List.getElem?_append_left (List.getElem?_eq_some_iff.mp e).1]; exact e⟩
  have bn : Bnd (plus (fun _ => False) S2.length) (S2 ++ [.ins c fs]) := fun n q => by
    rcases q with q | rfl
    · exact q.elim
    · simp
  have a := h _ S2.length _ ds rs' bn id ob
  have b := h' _ S2.length _ ds rs' bn id ob
  cases r with
  | ok t =>
    obtain ⟨t, ω1⟩ := t
    obtain ⟨S1, d1, e1, _, o1, r1⟩ := a
    cases r' with
    | ok u =>
      obtain ⟨u, ω2⟩ := u
      obtain ⟨S2, d2, e2, _, o2, r2⟩ := b
      rw [e1] at e2
      cases e2
      rw [r1.one r2, o1.one o2]
      exact .inr (.inr rfl)
    | exc x => obtain ⟨S2, e2, _⟩ := b; rw [e1] at e2; cases e2
    | bad => exact .inr (.inl rfl)
  | exc x =>
    obtain ⟨S1, e1, _⟩ := a
    cases r' with
    | ok u => obtain ⟨u, ω2⟩ := u; obtain ⟨S2, d2, e2, _⟩ := b; rw [e1] at e2; cases e2
    | exc x => obtain ⟨S2, e2, _⟩ := b; rw [e1] at e2; cases e2; exact .inr (.inr rfl)
    | bad => exact .inr (.inl rfl)
  | bad => exact .inl rfl
end DL

set_option Elab.async false
set_option linter.all false
set_option maxRecDepth 100000
set_option maxHeartbeats 1000000
namespace DL
open PySem
open KS (rise tLt sLt iLt)
section
variable {K : Type} [DecidableEq K]
def strX : T → Option Str
  | .str x => some x
  | _ => none
def intX : T → Option Int
  | .int x => some x
  | _ => none
def keyXT : T → Option (List Str)
  | .tup ts => (match fall strX ts with
    | some [] => none
    | r => r)
  | _ => none
def unX (k : List Str) : T := .tup (k.map T.str)
def sSSk (key : T → Option K) (lt : K → K → Bool) (kd : K → T) (t : T) : RT T := match litsT t with
  | some ts => (match fall key ts with
    | some ks => if (rise lt ks).length < 64 then .ok (.lst ((rise lt ks).map kd)) else .bad
    | none => .bad)
  | none => .bad
def qSS (t : T) : RT T := match sSSk keyXT tLt unX t with
  | .ok u => .ok u
  | _ => (match sSSk strX sLt T.str t with
    | .ok u => .ok u
    | _ => sSSk intX iLt T.int t)
def tSS (p : TDen) : TDen := fun τ => (p τ).bind qSS
theorem fall_R {Φ : Nat → Prop} {S : Sto} {key : D → Option K} {key' : T → Option K} (h : ∀ {d t}, Rd Φ S d t → key d = key' t) : ∀ {ds : List D} {ts : List T}, Rds Φ S ds ts → fall key ds = fall key' ts
  | _, _, .nil => rfl
  | _, _, .cons r rs => by simp only [fall, h r, fall_R h rs]
theorem strX_R {Φ : Nat → Prop} {S : Sto} {d : D} {t : T} (r : Rd Φ S d t) : strD d = strX t := by cases r <;> rfl
theorem intX_R {Φ : Nat → Prop} {S : Sto} {d : D} {t : T} (r : Rd Φ S d t) : intD d = intX t := by cases r <;> rfl
theorem keyX_R {Φ : Nat → Prop} {S : Sto} {d : D} {t : T} (r : Rd Φ S d t) : keyX d = keyXT t := by
  cases r <;> first | rfl | (rename_i rs; have z := fall_R (key := strD) (key' := strX) (fun r => strX_R r) rs; simp only [keyX, keyXT, z] <;> (rename_i ts; generalize fall strX ts = o; cases o with | none => rfl | some l => cases l <;> rfl))
theorem ssk_R {Φ : Nat → Prop} {S : Sto} {key : D → Option K} {key' : T → Option K} {kd : K → D} {kd' : K → T} {lt : K → K → Bool} (h : ∀ {d t}, Rd Φ S d t → key d = key' t) (hk : ∀ k, Rd Φ S (kd k) (kd' k)) (hB : Bnd Φ S)
    {d : D} {t : T} (r : Rd Φ S d t) {a : Den} {ε : Env} {S0 : Sto} (ea : a ε S0 = .ok d S) :
    (dSSk key lt kd a ε S0 = .bad ∧ ∀ u, sSSk key' lt kd' t ≠ .ok u) ∨ ∃ u, sSSk key' lt kd' t = .ok u ∧ OkR Rd Φ S (dSSk key lt kd a ε S0) (.ok u) ∧ ∃ d' S', dSSk key lt kd a ε S0 = .ok d' S' := by
  unfold dSSk sSSk
  rw [ea, R.bind_ok]
  rcases lits_T r with ⟨e1, e2⟩ | ⟨ds, ts, e1, e2, rs⟩
  · rw [e1, e2]; exact .inl ⟨rfl, fun u z => nomatch z⟩
  · simp only [e1, e2, fall_R h rs]
    cases fall key' ts with
    | none => exact .inl ⟨by first | rfl | trivial, fun u z => nomatch z⟩
    | some ks =>
      simp only
      by_cases c : (rise lt ks).length < 64
      · simp only [if_pos c]
        exact .inr ⟨_, rfl, .newL hB (Rds.maps fun k _ => hk k), _, _, rfl⟩
      · simp only [if_neg c]
        exact .inl ⟨by first | rfl | trivial, fun u z => nomatch z⟩
end
section
variable {j : Option Nat} {a b : Den} {p q : TDen}
theorem unX_R {Φ : Nat → Prop} {S : Sto} (k : List Str) : Rd Φ S (unK k) (unX k) := .tup (Rds.maps fun x _ => .str x)
theorem snd_ss (ha : SndE j a p) : SndE j (dSS a) (tSS p) := fun Φ S ε τ er hB => by
  have h := ha Φ S ε τ er hB
  unfold tSS
  cases hp : p τ with
  | bad => trivial
  | exc c =>
    rw [hp] at h
    obtain ⟨S1, e, pr⟩ := h
    refine ⟨S1, ?_, pr⟩
    unfold dSS dSSk
    rw [e]; rfl
  | ok t =>
    rw [hp] at h
    obtain ⟨S1, d, e, pr, r⟩ := h
    rw [RT.bind_ok]
    have hB1 := hB.pre pr
    refine OkR.up pr ?_
    rcases ssk_R (key := keyX) (key' := keyXT) (kd := unK) (kd' := unX) (lt := tLt) (fun r => keyX_R r) (fun k => unX_R k) hB1 r e with ⟨e1, n1⟩ | ⟨u, e1, o1, d', S', e2⟩
    · rcases ssk_R (key := strD) (key' := strX) (kd := D.str) (kd' := T.str) (lt := sLt) (fun r => strX_R r) (fun k => .str k) hB1 r e with ⟨e3, n3⟩ | ⟨u, e3, o3, d', S', e4⟩
      · have q1 : qSS t = sSSk intX iLt T.int t := by
          unfold qSS
          split
          · exact absurd ‹_› (n1 _)
          · split
            · exact absurd ‹_› (n3 _)
            · rfl
        have q2 : dSS a ε S = dSSk intD iLt D.int a ε S := by unfold dSS; rw [e1, e3]
        rw [q1, q2]
        rcases ssk_R (key := intD) (key' := intX) (kd := D.int) (kd' := T.int) (lt := iLt) (fun r => intX_R r) (fun k => .int k) hB1 r e with ⟨e5, n5⟩ | ⟨u, e5, o5, d', S', e6⟩
        · cases z : sSSk intX iLt T.int t with
          | ok u => exact absurd z (n5 u)
          | bad => trivial
          | exc c =>
            exfalso
            unfold sSSk at z
            split at z
            · split at z
              · split at z <;> cases z
              · cases z
            · cases z
        · rw [e5]; exact o5
      · have q1 : qSS t = .ok u := by
          unfold qSS
          rw [e3]
          split
          · exact absurd ‹_› (n1 _)
          · rfl
        have q2 : dSS a ε S = dSSk strD sLt D.str a ε S := by unfold dSS; rw [e1, e4]
        rw [q1, q2]; exact o3
    · have q1 : qSS t = .ok u := by unfold qSS; rw [e1]
      have q2 : dSS a ε S = dSSk keyX tLt unK a ε S := by unfold dSS; rw [e2]
      rw [q1, q2]; exact o1
def tiEnumA (p : TDen) : TIt := fun τ => (p τ).bind fun d => match d with
  | .tup ts => .ok (numT 0 ts)
  | d => match litsT d with
    | some ts => .ok (numT 0 ts)
    | none => .bad
theorem si_enumA (ha : SndE j a p) : SndI j (iEnumA a) (tiEnumA p) := fun Φ S ε τ er hB => (ha Φ S ε τ er hB).bind fun S1 d t p1 r1 => by
  cases r1 with
  | tup rs => exact .here ⟨_, fun _ _ => rfl, num_R 0 rs⟩
  | seq rs => exact .here ⟨_, fun _ _ => rfl, num_R 0 rs⟩
  | lst n e rs =>
    simp only [litems, e, litsT]
    refine .here ⟨_, fun S' k => ?_, num_R 0 rs⟩
    have z := litems_keep (Rd.lst n e rs) k
    simp only [litems, e] at z
    simp only [z]
    rfl
  | dct n e rs => simp only [litsT]; trivial
  | _ => trivial
def textsT : T → Option (List Str)
  | .tup ts => fall strX ts
  | _ => none
def tIdxT (p q : TDen) : TDen := fun τ => (p τ).bind fun t => match textsT t with
  | some ks => (q τ).bind fun u => (match u with
    | .str z => (match firstAt z ks with
      | some j => .ok (.int (j : Nat))
      | none => .bad)
    | _ => .bad)
  | none => .bad
theorem textsT_R {Φ : Nat → Prop} {S : Sto} {d : D} {t : T} (r : Rd Φ S d t) : textsOf d = textsT t := by
  cases r <;> first | rfl | (rename_i rs; have z := fall_R (key := strD) (key' := strX) (fun r => strX_R r) rs; simp only [textsOf, textsT, z])
theorem snd_idxT (ha : SndE j a p) (hb : SndE j b q) : SndE j (dIdxT a b) (tIdxT p q) := fun Φ S ε τ er hB =>
  (ha Φ S ε τ er hB).bind fun S1 d t p1 r1 => by
    rw [textsT_R r1]
    cases textsT t with
    | none => trivial
    | some ks =>
      refine (hb Φ S1 ε τ (er.pre p1) (hB.pre p1)).bind fun S2 e u p2 r2 => ?_
      cases r2 <;> try trivial
      rename_i z
      show OkR Rd Φ S2 (match firstAt z ks with | some j => R.ok (.int (j : Nat)) S2 | none => .bad) (match firstAt z ks with | some j => RT.ok (T.int (j : Nat)) | none => .bad)
      cases firstAt z ks with
      | none => trivial
      | some j => exact .here (.int _)
end
end DL

set_option Elab.async false
set_option linter.all false
set_option maxRecDepth 100000
set_option maxHeartbeats 1000000
namespace DL
open PySem L2
open KS (tLt sLt iLt)
section
end
section
end
end DL

set_option Elab.async false
set_option linter.all false
set_option maxRecDepth 100000
namespace DL
open PySem L2
def oPl : CF → Nat
  | _ => 0
def oCl : CF → Str
  | _ => ""
noncomputable def ov (f : CF → Fn) : CF → OFn := fun g => tv2 (oPl g) (oCl g) (f g)
noncomputable def ct_f_parts_of (c : CF → TFn) (o o2 : CF → OFn) : TSDen :=
    (tsSeq (tsIf (tTest (tBin qEq (tBin qGet (tVar 0) (tC (.int 0))) (tC (.str "call")))) (tsRet (tFn qList (tCons (tBin qAdd (tBin qGet (tVar 0) (tC (.int 2))) (tBin qGet (tVar 0) (tC (.int 3)))) tNil))) tsNil)
    (tsRet (tLc (tiAny (tSl (tVar 0) (tPart (tC (.int 1))) tNoPart)) (hN 1) (tTest (tIsi "tuple" (tVar 1))) (tVar 1) [1])))
theorem cst_f_parts_of (c c2 : CF → Fn) : SndS none none (b_f_parts_of c c2) (ct_f_parts_of (fun g => tv (c g)) (ov c) (ov c2)) := by
  unfold b_f_parts_of ct_f_parts_of
  exact (ss_seq (ss_if (snd_test (snd_bin sq_eq (snd_bin sq_get snd_var snd_int) snd_str)) (ss_ret (snd_fn sf_list (snd_cons (snd_bin sq_add (snd_bin sq_get snd_var snd_int) (snd_bin sq_get snd_var snd_int)) snd_nil))) ss_nil)
    (ss_ret (snd_lc (si_any (snd_sl snd_var (snd_part snd_int) snd_noPart)) (sg_name 1) (snd_test (snd_isi snd_var)) snd_var)))
theorem cq_f_parts_of {n : Nat} {ts : List T} {r : RT T} (e : trun 1 2 (ct_f_parts_of (fun g => tv (csem (n + 1) g)) (ov (csem (n + 1))) (ov (csem n))) ts = r) (hr : r ≠ .bad) : tv (csem (n + 2) .f_parts_of) ts = r := tv_of (by rw [cs_f_parts_of]; exact fn_T (cst_f_parts_of _ _)) e hr
noncomputable def ct_f_marks_of (c : CF → TFn) (o o2 : CF → OFn) : TSDen :=
    (tsSeq (tsAsg (tBin qGet (tVar 1) (tC (.int 0))) (hN 2))
    (tsSeq (tsAsg (tLst tNil) (hN 3))
    (tsSeq (tsIf (tTest (tBin qIn (tVar 2) (tTup (tCons (tC (.str "read")) (tCons (tC (.str "write")) (tCons (tC (.str "do")) tNil)))))) (tsAsg (tLst (tCons (tTup (tCons (tVar 2) (tCons (tBin qGet (tVar 1) (tC (.int 1))) tNil))) tNil)) (hN 3)) tsNil)
    (tsSeq (tsIf (tTest (tBin qIn (tVar 2) (tTup (tCons (tC (.str "say")) (tCons (tC (.str "ask")) tNil))))) (tsAsg (tLst (tCons (tTup (tCons (tVar 2) tNil)) tNil)) (hN 3)) tsNil)
    (tsSeq (tsIf (tTest (tBin qEq (tVar 2) (tC (.str "call")))) (tsRet (tCall 2 (c .f_call_marks) (tCons (tVar 0) (tCons (tVar 1) tNil)))) tsNil)
    (tsSeq (tsIf (tTest (tBin qEq (tVar 2) (tC (.str "own")))) (tsSeq (tsAsg (tLc (tiAny (tCall 2 (c .f_marks_of) (tCons (tVar 0) (tCons (tBin qGet (tVar 1) (tC (.int 3))) tNil)))) (hN 6) (tTest (tBin qNotIn (tVar 6) (tTup (tCons (tTup (tCons (tC (.str "read")) (tCons (tBin qGet (tVar 1) (tC (.int 1))) tNil))) (tCons (tTup (tCons (tC (.str "write")) (tCons (tBin qGet (tVar 1) (tC (.int 1))) tNil))) tNil))))) (tVar 6) [6]) (hN 4))
    (tsRet (tCall 1 (c .f_once) (tCons (tBin qAdd (tCall 2 (c .f_marks_of) (tCons (tVar 0) (tCons (tBin qGet (tVar 1) (tC (.int 2))) tNil))) (tVar 4)) tNil)))) tsNil)
    (tsSeq (tsFor (tiAny (tCall 1 (c .f_parts_of) (tCons (tVar 1) tNil))) (hN 5) (tsAsg (tBin qAdd (tVar 3) (tCall 2 (c .f_marks_of) (tCons (tVar 0) (tCons (tVar 5) tNil)))) (hN 3)))
    (tsRet (tCall 1 (c .f_once) (tCons (tVar 3) tNil))))))))))
theorem cst_f_marks_of (c c2 : CF → Fn) : SndS none none (b_f_marks_of c c2) (ct_f_marks_of (fun g => tv (c g)) (ov c) (ov c2)) := by
  unfold b_f_marks_of ct_f_marks_of
  exact (ss_seq (ss_asg (snd_bin sq_get snd_var snd_int) (sg_name 2))
    (ss_seq (ss_asg (snd_lst snd_nil) (sg_name 3))
    (ss_seq (ss_if (snd_test (snd_bin sq_in snd_var (snd_tup (snd_cons snd_str (snd_cons snd_str (snd_cons snd_str snd_nil)))))) (ss_asg (snd_lst (snd_cons (snd_tup (snd_cons snd_var (snd_cons (snd_bin sq_get snd_var snd_int) snd_nil))) snd_nil)) (sg_name 3)) ss_nil)
    (ss_seq (ss_if (snd_test (snd_bin sq_in snd_var (snd_tup (snd_cons snd_str (snd_cons snd_str snd_nil))))) (ss_asg (snd_lst (snd_cons (snd_tup (snd_cons snd_var snd_nil)) snd_nil)) (sg_name 3)) ss_nil)
    (ss_seq (ss_if (snd_test (snd_bin sq_eq snd_var snd_str)) (ss_ret (snd_call (tv_T _) (snd_cons snd_var (snd_cons snd_var snd_nil)))) ss_nil)
    (ss_seq (ss_if (snd_test (snd_bin sq_eq snd_var snd_str)) (ss_seq (ss_asg (snd_lc (si_any (snd_call (tv_T _) (snd_cons snd_var (snd_cons (snd_bin sq_get snd_var snd_int) snd_nil)))) (sg_name 6) (snd_test (snd_bin sq_notIn snd_var (snd_tup (snd_cons (snd_tup (snd_cons snd_str (snd_cons (snd_bin sq_get snd_var snd_int) snd_nil))) (snd_cons (snd_tup (snd_cons snd_str (snd_cons (snd_bin sq_get snd_var snd_int) snd_nil))) snd_nil))))) snd_var) (sg_name 4))
    (ss_ret (snd_call (tv_T _) (snd_cons (snd_bin sq_add (snd_call (tv_T _) (snd_cons snd_var (snd_cons (snd_bin sq_get snd_var snd_int) snd_nil))) snd_var) snd_nil)))) ss_nil)
    (ss_seq (ss_for (si_any (snd_call (tv_T _) (snd_cons snd_var snd_nil))) (sg_name 5) (ss_asg (snd_bin sq_add snd_var (snd_call (tv_T _) (snd_cons snd_var (snd_cons snd_var snd_nil)))) (sg_name 3)))
    (ss_ret (snd_call (tv_T _) (snd_cons snd_var snd_nil))))))))))
theorem cq_f_marks_of {n : Nat} {ts : List T} {r : RT T} (e : trun 2 7 (ct_f_marks_of (fun g => tv (csem (n + 1) g)) (ov (csem (n + 1))) (ov (csem n))) ts = r) (hr : r ≠ .bad) : tv (csem (n + 2) .f_marks_of) ts = r := tv_of (by rw [cs_f_marks_of]; exact fn_T (cst_f_marks_of _ _)) e hr
noncomputable def ct_f_once (c : CF → TFn) (o o2 : CF → OFn) : TSDen :=
    (tsRet (tSS (tVar 0)))
theorem cst_f_once (c c2 : CF → Fn) : SndS none none (b_f_once c c2) (ct_f_once (fun g => tv (c g)) (ov c) (ov c2)) := by
  unfold b_f_once ct_f_once
  exact (ss_ret (snd_ss snd_var))
theorem cq_f_once {n : Nat} {ts : List T} {r : RT T} (e : trun 1 1 (ct_f_once (fun g => tv (csem (n + 1) g)) (ov (csem (n + 1))) (ov (csem n))) ts = r) (hr : r ≠ .bad) : tv (csem (n + 2) .f_once) ts = r := tv_of (by rw [cs_f_once]; exact fn_T (cst_f_once _ _)) e hr
noncomputable def ct_f_call_marks (c : CF → TFn) (o o2 : CF → OFn) : TSDen :=
    (tsSeq (tsAsg (tBin qGet (tVar 0) (tBin qGet (tVar 1) (tC (.int 1)))) (hT 3 (hsCons (hN 2) (hsCons (hN 3) (hsCons (hN 4) hsNil)))))
    (tsSeq (tsOwn (tLst tNil) 5)
    (tsSeq (tsFor (tiAny (tBin qGet (tVar 1) (tC (.int 2)))) (hN 6) (tsReown 5 (tCall 2 (c .f_marks_of) (tCons (tVar 0) (tCons (tVar 6) tNil)))))
    (tsSeq (tsFor (tiAny (tCall 2 (c .f_marks_of) (tCons (tVar 0) (tCons (tVar 4) tNil)))) (hN 7) (tsIf (tTest (tBin qEq (tBin qGet (tVar 7) (tC (.int 0))) (tC (.str "do")))) (tsReown 5 (tCall 2 (c .f_marks_of) (tCons (tVar 0) (tCons (tBin qGet (tBin qGet (tVar 1) (tC (.int 3))) (tIdxT (tVar 3) (tBin qGet (tVar 7) (tC (.int 1))))) tNil)))) (tsApp 5 (tVar 7))))
    (tsRet (tCall 1 (c .f_once) (tCons (tVar 5) tNil)))))))
theorem cst_f_call_marks (c c2 : CF → Fn) : SndS none none (b_f_call_marks c c2) (ct_f_call_marks (fun g => tv (c g)) (ov c) (ov c2)) := by
  unfold b_f_call_marks ct_f_call_marks
  exact (ss_seq (ss_asg (snd_bin sq_get snd_var (snd_bin sq_get snd_var snd_int)) (sg_tup (sg_cons (sg_name 2) (sg_cons (sg_name 3) (sg_cons (sg_name 4) sg_nil)))))
    (ss_seq (ss_own 5 (snd_lst snd_nil) (fresh_lst snd_nil))
    (ss_seq (ss_for (si_any (snd_bin sq_get (snd_var (j := some 5) (i := 1)) snd_int)) (sg_name (j := some 5) 6) (ss_reown (snd_call (tv_T _) (snd_cons (snd_var (j := some 5) (i := 0)) (snd_cons (snd_var (j := some 5) (i := 6)) snd_nil)))))
    (ss_seq (ss_rel (ss_for (si_any (snd_call (tv_T _) (snd_cons (snd_var (j := some 5) (i := 0)) (snd_cons (snd_var (j := some 5) (i := 4)) snd_nil)))) (sg_name (j := some 5) 7) (ss_if (snd_test (snd_bin sq_eq (snd_bin sq_get (snd_var (j := some 5) (i := 7)) snd_int) snd_str)) (ss_reown (snd_call (tv_T _) (snd_cons (snd_var (j := some 5) (i := 0)) (snd_cons (snd_bin sq_get (snd_bin sq_get (snd_var (j := some 5) (i := 1)) snd_int) (snd_idxT (snd_var (j := some 5) (i := 3)) (snd_bin sq_get (snd_var (j := some 5) (i := 7)) snd_int))) snd_nil)))) (ss_app (snd_var (j := some 5) (i := 7))))))
    (ss_ret (snd_call (tv_T _) (snd_cons snd_var snd_nil)))))))
theorem cq_f_call_marks {n : Nat} {ts : List T} {r : RT T} (e : trun 2 8 (ct_f_call_marks (fun g => tv (csem (n + 1) g)) (ov (csem (n + 1))) (ov (csem n))) ts = r) (hr : r ≠ .bad) : tv (csem (n + 2) .f_call_marks) ts = r := tv_of (by rw [cs_f_call_marks]; exact fn_T (cst_f_call_marks _ _)) e hr
noncomputable def ct_f_touches (c : CF → TFn) (o o2 : CF → OFn) : TSDen :=
    (tsRet (tCall 2 (c .f_marks_of) (tCons (tVar 0) (tCons (tVar 1) tNil))))
theorem cst_f_touches (c c2 : CF → Fn) : SndS none none (b_f_touches c c2) (ct_f_touches (fun g => tv (c g)) (ov c) (ov c2)) := by
  unfold b_f_touches ct_f_touches
  exact (ss_ret (snd_call (tv_T _) (snd_cons snd_var (snd_cons snd_var snd_nil))))
theorem cq_f_touches {n : Nat} {ts : List T} {r : RT T} (e : trun 2 2 (ct_f_touches (fun g => tv (csem (n + 1) g)) (ov (csem (n + 1))) (ov (csem n))) ts = r) (hr : r ≠ .bad) : tv (csem (n + 2) .f_touches) ts = r := tv_of (by rw [cs_f_touches]; exact fn_T (cst_f_touches _ _)) e hr
noncomputable def ct_f__law_marks (c : CF → TFn) (o o2 : CF → OFn) : TSDen :=
    (tsSeq (tsIf (tTest (tBin qEq (tBin qGet (tVar 1) (tC (.int 0))) (tC (.str "call")))) (tsSeq (tsAsg (tLst tNil) (hN 2))
    (tsSeq (tsFor (tiAny (tBin qGet (tVar 1) (tC (.int 2)))) (hN 3) (tsAsg (tBin qAdd (tVar 2) (tCall 2 (c .f__law_marks) (tCons (tVar 0) (tCons (tVar 3) tNil)))) (hN 2)))
    (tsSeq (tsFor (tiAny (tCall 2 (c .f__law_marks) (tCons (tVar 0) (tCons (tBin qGet (tBin qGet (tVar 0) (tBin qGet (tVar 1) (tC (.int 1)))) (tC (.int 2))) tNil)))) (hN 4) (tsIf (tTest (tBin qEq (tBin qGet (tVar 4) (tC (.int 0))) (tC (.str "do")))) (tsAsg (tBin qAdd (tVar 2) (tCall 2 (c .f__law_marks) (tCons (tVar 0) (tCons (tBin qGet (tBin qGet (tVar 1) (tC (.int 3))) (tIdxT (tBin qGet (tBin qGet (tVar 0) (tBin qGet (tVar 1) (tC (.int 1)))) (tC (.int 1))) (tBin qGet (tVar 4) (tC (.int 1))))) tNil)))) (hN 2)) (tsAsg (tBin qAdd (tVar 2) (tLst (tCons (tVar 4) tNil))) (hN 2))))
    (tsRet (tSS (tVar 2)))))) tsNil)
    (tsSeq (tsAsg (tBin qAdd (tBin qMul (tLst (tCons (tSl (tVar 1) tNoPart (tPart (tC (.int 2)))) tNil)) (tFn qI (tCons (tBin qIn (tBin qGet (tVar 1) (tC (.int 0))) (tTup (tCons (tC (.str "read")) (tCons (tC (.str "write")) (tCons (tC (.str "do")) tNil))))) tNil))) (tBin qMul (tLst (tCons (tVar 1) tNil)) (tFn qI (tCons (tBin qEq (tVar 1) (tTup (tCons (tC (.str "ask")) tNil))) tNil)))) (hN 2))
    (tsSeq (tsAsg (tBin qAdd (tVar 2) (tBin qMul (tLst (tCons (tTup (tCons (tC (.str "say")) tNil)) tNil)) (tFn qI (tCons (tBin qEq (tBin qGet (tVar 1) (tC (.int 0))) (tC (.str "say"))) tNil)))) (hN 2))
    (tsSeq (tsFor (tiEnumA (tVar 1)) (hT 2 (hsCons (hN 5) (hsCons (hN 3) hsNil))) (tsIf (tTest (tIsi "tuple" (tVar 3))) (tsSeq (tsAsg (tCall 2 (c .f__law_marks) (tCons (tVar 0) (tCons (tVar 3) tNil))) (hN 6))
    (tsSeq (tsIf (tbAnd (tTest (tBin qEq (tBin qGet (tVar 1) (tC (.int 0))) (tC (.str "own")))) (tTest (tBin qEq (tVar 5) (tC (.int 3))))) (tsAsg (tLc (tiAny (tVar 6)) (hN 4) (tTest (tBin qNe (tSl (tVar 4) (tPart (tC (.int 1))) tNoPart) (tTup (tCons (tBin qGet (tVar 1) (tC (.int 1))) tNil)))) (tVar 4) [4]) (hN 6)) tsNil)
    (tsAsg (tBin qAdd (tVar 2) (tVar 6)) (hN 2)))) tsNil))
    (tsRet (tSS (tVar 2)))))))
theorem cst_f__law_marks (c c2 : CF → Fn) : SndS none none (b_f__law_marks c c2) (ct_f__law_marks (fun g => tv (c g)) (ov c) (ov c2)) := by
  unfold b_f__law_marks ct_f__law_marks
  exact (ss_seq (ss_if (snd_test (snd_bin sq_eq (snd_bin sq_get snd_var snd_int) snd_str)) (ss_seq (ss_asg (snd_lst snd_nil) (sg_name 2))
    (ss_seq (ss_for (si_any (snd_bin sq_get snd_var snd_int)) (sg_name 3) (ss_asg (snd_bin sq_add snd_var (snd_call (tv_T _) (snd_cons snd_var (snd_cons snd_var snd_nil)))) (sg_name 2)))
    (ss_seq (ss_for (si_any (snd_call (tv_T _) (snd_cons snd_var (snd_cons (snd_bin sq_get (snd_bin sq_get snd_var (snd_bin sq_get snd_var snd_int)) snd_int) snd_nil)))) (sg_name 4) (ss_if (snd_test (snd_bin sq_eq (snd_bin sq_get snd_var snd_int) snd_str)) (ss_asg (snd_bin sq_add snd_var (snd_call (tv_T _) (snd_cons snd_var (snd_cons (snd_bin sq_get (snd_bin sq_get snd_var snd_int) (snd_idxT (snd_bin sq_get (snd_bin sq_get snd_var (snd_bin sq_get snd_var snd_int)) snd_int) (snd_bin sq_get snd_var snd_int))) snd_nil)))) (sg_name 2)) (ss_asg (snd_bin sq_add snd_var (snd_lst (snd_cons snd_var snd_nil))) (sg_name 2))))
    (ss_ret (snd_ss snd_var))))) ss_nil)
    (ss_seq (ss_asg (snd_bin sq_add (snd_bin sq_mul (snd_lst (snd_cons (snd_sl snd_var snd_noPart (snd_part snd_int)) snd_nil)) (snd_fn sf_int (snd_cons (snd_bin sq_in (snd_bin sq_get snd_var snd_int) (snd_tup (snd_cons snd_str (snd_cons snd_str (snd_cons snd_str snd_nil))))) snd_nil))) (snd_bin sq_mul (snd_lst (snd_cons snd_var snd_nil)) (snd_fn sf_int (snd_cons (snd_bin sq_eq snd_var (snd_tup (snd_cons snd_str snd_nil))) snd_nil)))) (sg_name 2))
    (ss_seq (ss_asg (snd_bin sq_add snd_var (snd_bin sq_mul (snd_lst (snd_cons (snd_tup (snd_cons snd_str snd_nil)) snd_nil)) (snd_fn sf_int (snd_cons (snd_bin sq_eq (snd_bin sq_get snd_var snd_int) snd_str) snd_nil)))) (sg_name 2))
    (ss_seq (ss_for (si_enumA snd_var) (sg_tup (sg_cons (sg_name 5) (sg_cons (sg_name 3) sg_nil))) (ss_if (snd_test (snd_isi snd_var)) (ss_seq (ss_asg (snd_call (tv_T _) (snd_cons snd_var (snd_cons snd_var snd_nil))) (sg_name 6))
    (ss_seq (ss_if (snd_and (snd_test (snd_bin sq_eq (snd_bin sq_get snd_var snd_int) snd_str)) (snd_test (snd_bin sq_eq snd_var snd_int))) (ss_asg (snd_lc (si_any snd_var) (sg_name 4) (snd_test (snd_bin sq_ne (snd_sl snd_var (snd_part snd_int) snd_noPart) (snd_tup (snd_cons (snd_bin sq_get snd_var snd_int) snd_nil)))) snd_var) (sg_name 6)) ss_nil)
    (ss_asg (snd_bin sq_add snd_var snd_var) (sg_name 2)))) ss_nil))
    (ss_ret (snd_ss snd_var))))))
theorem cq_f__law_marks {n : Nat} {ts : List T} {r : RT T} (e : trun 2 7 (ct_f__law_marks (fun g => tv (csem (n + 1) g)) (ov (csem (n + 1))) (ov (csem n))) ts = r) (hr : r ≠ .bad) : tv (csem (n + 2) .f__law_marks) ts = r := tv_of (by rw [cs_f__law_marks]; exact fn_T (cst_f__law_marks _ _)) e hr
noncomputable def ct_f_is_met (c : CF → TFn) (o o2 : CF → OFn) : TSDen :=
    (tsSeq (tsIf (tTest (tBin qIn (tBin qGet (tVar 0) (tC (.int 0))) (tTup (tCons (tC (.str "say")) (tCons (tC (.str "ask")) tNil))))) (tsRet (tBin qIn (tVar 0) (tVar 1))) tsNil)
    (tsSeq (tsIf (tTest (tBin qEq (tBin qGet (tVar 0) (tC (.int 0))) (tC (.str "write")))) (tsRet (tOrV (tBin qIn (tTup (tCons (tC (.str "read")) (tCons (tBin qGet (tVar 0) (tC (.int 1))) tNil))) (tVar 1)) (tBin qIn (tTup (tCons (tC (.str "write")) (tCons (tBin qGet (tVar 0) (tC (.int 1))) tNil))) (tVar 1)))) tsNil)
    (tsRet (tBin qIn (tTup (tCons (tC (.str "write")) (tCons (tBin qGet (tVar 0) (tC (.int 1))) tNil))) (tVar 1)))))
theorem cst_f_is_met (c c2 : CF → Fn) : SndS none none (b_f_is_met c c2) (ct_f_is_met (fun g => tv (c g)) (ov c) (ov c2)) := by
  unfold b_f_is_met ct_f_is_met
  exact (ss_seq (ss_if (snd_test (snd_bin sq_in (snd_bin sq_get snd_var snd_int) (snd_tup (snd_cons snd_str (snd_cons snd_str snd_nil))))) (ss_ret (snd_bin sq_in snd_var snd_var)) ss_nil)
    (ss_seq (ss_if (snd_test (snd_bin sq_eq (snd_bin sq_get snd_var snd_int) snd_str)) (ss_ret (snd_orV (snd_bin sq_in (snd_tup (snd_cons snd_str (snd_cons (snd_bin sq_get snd_var snd_int) snd_nil))) snd_var) (snd_bin sq_in (snd_tup (snd_cons snd_str (snd_cons (snd_bin sq_get snd_var snd_int) snd_nil))) snd_var))) ss_nil)
    (ss_ret (snd_bin sq_in (snd_tup (snd_cons snd_str (snd_cons (snd_bin sq_get snd_var snd_int) snd_nil))) snd_var))))
theorem cq_f_is_met {n : Nat} {ts : List T} {r : RT T} (e : trun 2 2 (ct_f_is_met (fun g => tv (csem (n + 1) g)) (ov (csem (n + 1))) (ov (csem n))) ts = r) (hr : r ≠ .bad) : tv (csem (n + 2) .f_is_met) ts = r := tv_of (by rw [cs_f_is_met]; exact fn_T (cst_f_is_met _ _)) e hr
noncomputable def ct_f_clash (c : CF → TFn) (o o2 : CF → OFn) : TSDen :=
    (tsSeq (tsAsg (tCall 2 (c .f_touches) (tCons (tVar 0) (tCons (tVar 1) tNil))) (hN 3))
    (tsSeq (tsAsg (tCall 2 (c .f_touches) (tCons (tVar 0) (tCons (tVar 2) tNil))) (hN 4))
    (tsRet (tSS (tLc (tiAny (tVar 3)) (hN 5) (tTest (tCall 2 (c .f_is_met) (tCons (tVar 5) (tCons (tVar 4) tNil)))) (tBin qGet (tVar 5) (tNeg (tC (.int 1)))) [5])))))
theorem cst_f_clash (c c2 : CF → Fn) : SndS none none (b_f_clash c c2) (ct_f_clash (fun g => tv (c g)) (ov c) (ov c2)) := by
  unfold b_f_clash ct_f_clash
  exact (ss_seq (ss_asg (snd_call (tv_T _) (snd_cons snd_var (snd_cons snd_var snd_nil))) (sg_name 3))
    (ss_seq (ss_asg (snd_call (tv_T _) (snd_cons snd_var (snd_cons snd_var snd_nil))) (sg_name 4))
    (ss_ret (snd_ss (snd_lc (si_any snd_var) (sg_name 5) (snd_test (snd_call (tv_T _) (snd_cons snd_var (snd_cons snd_var snd_nil)))) (snd_bin sq_get snd_var (snd_neg snd_int)))))))
theorem cq_f_clash {n : Nat} {ts : List T} {r : RT T} (e : trun 3 6 (ct_f_clash (fun g => tv (csem (n + 1) g)) (ov (csem (n + 1))) (ov (csem n))) ts = r) (hr : r ≠ .bad) : tv (csem (n + 2) .f_clash) ts = r := tv_of (by rw [cs_f_clash]; exact fn_T (cst_f_clash _ _)) e hr
noncomputable def ct_f_may_go (c : CF → TFn) (o o2 : CF → OFn) : TSDen :=
    (tsRet (tBin qEq (tCall 3 (c .f_clash) (tCons (tVar 0) (tCons (tVar 1) (tCons (tVar 2) tNil)))) (tLst tNil)))
theorem cst_f_may_go (c c2 : CF → Fn) : SndS none none (b_f_may_go c c2) (ct_f_may_go (fun g => tv (c g)) (ov c) (ov c2)) := by
  unfold b_f_may_go ct_f_may_go
  exact (ss_ret (snd_bin sq_eq (snd_call (tv_T _) (snd_cons snd_var (snd_cons snd_var (snd_cons snd_var snd_nil)))) (snd_lst snd_nil)))
theorem cq_f_may_go {n : Nat} {ts : List T} {r : RT T} (e : trun 3 3 (ct_f_may_go (fun g => tv (csem (n + 1) g)) (ov (csem (n + 1))) (ov (csem n))) ts = r) (hr : r ≠ .bad) : tv (csem (n + 2) .f_may_go) ts = r := tv_of (by rw [cs_f_may_go]; exact fn_T (cst_f_may_go _ _)) e hr
noncomputable def ct_f__law_clash (c : CF → TFn) (o o2 : CF → OFn) : TSDen :=
    (tsSeq (tsOwn (tLc (tiAny (tVar 0)) (hN 5) (tbAnd (tTest (tBin qIn (tVar 5) (tTup (tCons (tTup (tCons (tC (.str "say")) tNil)) (tCons (tTup (tCons (tC (.str "ask")) tNil)) tNil))))) (tTest (tBin qIn (tVar 5) (tVar 1)))) (tBin qGet (tVar 5) (tC (.int 0))) [5]) 2)
    (tsSeq (tsFor (tiAny (tTup (tCons (tTup (tCons (tVar 0) (tCons (tVar 1) tNil))) (tCons (tTup (tCons (tVar 1) (tCons (tVar 0) tNil))) tNil)))) (hT 2 (hsCons (hN 3) (hsCons (hN 4) hsNil))) (tsFor (tiAny (tVar 3)) (hN 5) (tsIf (tbAnd (tTest (tBin qEq (tBin qGet (tVar 5) (tC (.int 0))) (tC (.str "write")))) (tTest (tBin qNe (tLc (tiAny (tVar 4)) (hN 6) (tTest (tBin qEq (tSl (tVar 6) (tPart (tC (.int 1))) tNoPart) (tSl (tVar 5) (tPart (tC (.int 1))) tNoPart))) (tVar 6) [6]) (tLst tNil)))) (tsApp 2 (tBin qGet (tVar 5) (tC (.int 1)))) tsNil)))
    (tsRet (tSS (tVar 2)))))
theorem cst_f__law_clash (c c2 : CF → Fn) : SndS none none (b_f__law_clash c c2) (ct_f__law_clash (fun g => tv (c g)) (ov c) (ov c2)) := by
  unfold b_f__law_clash ct_f__law_clash
  exact (ss_seq (ss_own 2 (snd_lc (si_any snd_var) (sg_name 5) (snd_and (snd_test (snd_bin sq_in snd_var (snd_tup (snd_cons (snd_tup (snd_cons snd_str snd_nil)) (snd_cons (snd_tup (snd_cons snd_str snd_nil)) snd_nil))))) (snd_test (snd_bin sq_in snd_var snd_var))) (snd_bin sq_get snd_var snd_int)) (fresh_lc (si_any snd_var) (sg_name 5) (snd_and (snd_test (snd_bin sq_in snd_var (snd_tup (snd_cons (snd_tup (snd_cons snd_str snd_nil)) (snd_cons (snd_tup (snd_cons snd_str snd_nil)) snd_nil))))) (snd_test (snd_bin sq_in snd_var snd_var))) (snd_bin sq_get snd_var snd_int)))
    (ss_seq (ss_rel (ss_for (si_any (snd_tup (snd_cons (snd_tup (snd_cons (snd_var (j := some 2) (i := 0)) (snd_cons (snd_var (j := some 2) (i := 1)) snd_nil))) (snd_cons (snd_tup (snd_cons (snd_var (j := some 2) (i := 1)) (snd_cons (snd_var (j := some 2) (i := 0)) snd_nil))) snd_nil)))) (sg_tup (sg_cons (sg_name (j := some 2) 3) (sg_cons (sg_name (j := some 2) 4) sg_nil))) (ss_for (si_any (snd_var (j := some 2) (i := 3))) (sg_name (j := some 2) 5) (ss_if (snd_and (snd_test (snd_bin sq_eq (snd_bin sq_get (snd_var (j := some 2) (i := 5)) snd_int) snd_str)) (snd_test (snd_bin sq_ne (snd_lc (si_any (snd_var (j := some 2) (i := 4))) (sg_name (j := some 2) 6) (snd_test (snd_bin sq_eq (snd_sl (snd_var (j := some 2) (i := 6)) (snd_part snd_int) snd_noPart) (snd_sl (snd_var (j := some 2) (i := 5)) (snd_part snd_int) snd_noPart))) (snd_var (j := some 2) (i := 6))) (snd_lst snd_nil)))) (ss_app (snd_bin sq_get (snd_var (j := some 2) (i := 5)) snd_int)) ss_nil))))
    (ss_ret (snd_ss snd_var))))
theorem cq_f__law_clash {n : Nat} {ts : List T} {r : RT T} (e : trun 2 7 (ct_f__law_clash (fun g => tv (csem (n + 1) g)) (ov (csem (n + 1))) (ov (csem n))) ts = r) (hr : r ≠ .bad) : tv (csem (n + 2) .f__law_clash) ts = r := tv_of (by rw [cs_f__law_clash]; exact fn_T (cst_f__law_clash _ _)) e hr
noncomputable def ct_f_all_may_go (c : CF → TFn) (o o2 : CF → OFn) : TSDen :=
    (tsSeq (tsFor (tiEnumA (tVar 1)) (hT 2 (hsCons (hN 2) (hsCons (hN 3) hsNil))) (tsIf (tbNot (tTest (tFn qAll (tCons (tLc (tiAny (tSl (tVar 1) (tPart (tBin qAdd (tVar 2) (tC (.int 1)))) tNoPart)) (hN 4) tYes (tCall 3 (c .f_may_go) (tCons (tVar 0) (tCons (tVar 3) (tCons (tVar 4) tNil)))) [4]) tNil)))) (tsRet (tC (.bl false))) tsNil))
    (tsRet (tC (.bl true))))
theorem cst_f_all_may_go (c c2 : CF → Fn) : SndS none none (b_f_all_may_go c c2) (ct_f_all_may_go (fun g => tv (c g)) (ov c) (ov c2)) := by
  unfold b_f_all_may_go ct_f_all_may_go
  exact (ss_seq (ss_for (si_enumA snd_var) (sg_tup (sg_cons (sg_name 2) (sg_cons (sg_name 3) sg_nil))) (ss_if (snd_not (snd_test (snd_fn sf_all (snd_cons (snd_lc (si_any (snd_sl snd_var (snd_part (snd_bin sq_add snd_var snd_int)) snd_noPart)) (sg_name 4) snd_yes (snd_call (tv_T _) (snd_cons snd_var (snd_cons snd_var (snd_cons snd_var snd_nil))))) snd_nil)))) (ss_ret snd_bl) ss_nil))
    (ss_ret snd_bl))
theorem cq_f_all_may_go {n : Nat} {ts : List T} {r : RT T} (e : trun 2 5 (ct_f_all_may_go (fun g => tv (csem (n + 1) g)) (ov (csem (n + 1))) (ov (csem n))) ts = r) (hr : r ≠ .bad) : tv (csem (n + 2) .f_all_may_go) ts = r := tv_of (by rw [cs_f_all_may_go]; exact fn_T (cst_f_all_may_go _ _)) e hr
noncomputable def ct_f_clashing (c : CF → TFn) (o o2 : CF → OFn) : TSDen :=
    (tsSeq (tsOwn (tLst tNil) 2)
    (tsSeq (tsFor (tiEnumA (tVar 1)) (hT 2 (hsCons (hN 3) (hsCons (hN 4) hsNil))) (tsExt 2 (tLc (tiRange2 (tBin qAdd (tVar 3) (tC (.int 1))) (tFn qLen (tCons (tVar 1) tNil))) (hN 5) (tbNot (tTest (tCall 3 (c .f_may_go) (tCons (tVar 0) (tCons (tVar 4) (tCons (tBin qGet (tVar 1) (tVar 5)) tNil)))))) (tTup (tCons (tVar 3) (tCons (tVar 5) tNil))) [5])))
    (tsRet (tVar 2))))
theorem cst_f_clashing (c c2 : CF → Fn) : SndS none none (b_f_clashing c c2) (ct_f_clashing (fun g => tv (c g)) (ov c) (ov c2)) := by
  unfold b_f_clashing ct_f_clashing
  exact (ss_seq (ss_own 2 (snd_lst snd_nil) (fresh_lst snd_nil))
    (ss_seq (ss_rel (ss_for (si_enumA (snd_var (j := some 2) (i := 1))) (sg_tup (sg_cons (sg_name (j := some 2) 3) (sg_cons (sg_name (j := some 2) 4) sg_nil))) (ss_ext (snd_lc (si_range2 (snd_bin sq_add (snd_var (j := some 2) (i := 3)) snd_int) (snd_fn sf_len (snd_cons (snd_var (j := some 2) (i := 1)) snd_nil))) (sg_name (j := some 2) 5) (snd_not (snd_test (snd_call (tv_T _) (snd_cons (snd_var (j := some 2) (i := 0)) (snd_cons (snd_var (j := some 2) (i := 4)) (snd_cons (snd_bin sq_get (snd_var (j := some 2) (i := 1)) (snd_var (j := some 2) (i := 5))) snd_nil)))))) (snd_tup (snd_cons (snd_var (j := some 2) (i := 3)) (snd_cons (snd_var (j := some 2) (i := 5)) snd_nil)))))))
    (ss_ret snd_var)))
theorem cq_f_clashing {n : Nat} {ts : List T} {r : RT T} (e : trun 2 6 (ct_f_clashing (fun g => tv (csem (n + 1) g)) (ov (csem (n + 1))) (ov (csem n))) ts = r) (hr : r ≠ .bad) : tv (csem (n + 2) .f_clashing) ts = r := tv_of (by rw [cs_f_clashing]; exact fn_T (cst_f_clashing _ _)) e hr
noncomputable def ct_f_goes_twice (c : CF → TFn) (o o2 : CF → OFn) : TSDen :=
    (tsSeq (tsAsg (tCall 2 (c .f_touches) (tCons (tVar 0) (tCons (tVar 1) tNil))) (hN 2))
    (tsSeq (tsIf (tbOr (tTest (tBin qIn (tTup (tCons (tC (.str "say")) tNil)) (tVar 2))) (tTest (tBin qIn (tTup (tCons (tC (.str "ask")) tNil)) (tVar 2)))) (tsRet (tC (.bl false))) tsNil)
    (tsRet (tNotV (tFn qAny (tCons (tLc (tiAny (tVar 2)) (hN 3) (tTest (tBin qEq (tBin qGet (tVar 3) (tC (.int 0))) (tC (.str "write")))) (tBin qIn (tTup (tCons (tC (.str "read")) (tCons (tBin qGet (tVar 3) (tC (.int 1))) tNil))) (tVar 2)) [3]) tNil))))))
theorem cst_f_goes_twice (c c2 : CF → Fn) : SndS none none (b_f_goes_twice c c2) (ct_f_goes_twice (fun g => tv (c g)) (ov c) (ov c2)) := by
  unfold b_f_goes_twice ct_f_goes_twice
  exact (ss_seq (ss_asg (snd_call (tv_T _) (snd_cons snd_var (snd_cons snd_var snd_nil))) (sg_name 2))
    (ss_seq (ss_if (snd_or (snd_test (snd_bin sq_in (snd_tup (snd_cons snd_str snd_nil)) snd_var)) (snd_test (snd_bin sq_in (snd_tup (snd_cons snd_str snd_nil)) snd_var))) (ss_ret snd_bl) ss_nil)
    (ss_ret (snd_notV (snd_fn sf_any (snd_cons (snd_lc (si_any snd_var) (sg_name 3) (snd_test (snd_bin sq_eq (snd_bin sq_get snd_var snd_int) snd_str)) (snd_bin sq_in (snd_tup (snd_cons snd_str (snd_cons (snd_bin sq_get snd_var snd_int) snd_nil))) snd_var)) snd_nil))))))
theorem cq_f_goes_twice {n : Nat} {ts : List T} {r : RT T} (e : trun 2 4 (ct_f_goes_twice (fun g => tv (csem (n + 1) g)) (ov (csem (n + 1))) (ov (csem n))) ts = r) (hr : r ≠ .bad) : tv (csem (n + 2) .f_goes_twice) ts = r := tv_of (by rw [cs_f_goes_twice]; exact fn_T (cst_f_goes_twice _ _)) e hr
end DL

set_option Elab.async false
set_option linter.all false
set_option maxRecDepth 100000
set_option maxHeartbeats 1000000
namespace DL
open PySem L2
mutual
def rfD : D → Bool
  | .non => true | .bl _ => true | .int _ => true | .str _ => true
  | .tup ts => rfDs ts
  | .seq ts => rfDs ts
  | .ref _ => false
def rfDs : List D → Bool
  | [] => true
  | t :: ts => rfD t && rfDs ts
end
section
end
def isMk (m : D) : Prop := (∃ v, m = markA v) ∨ (∃ x v, m = markR x v) ∨ (∃ x v, m = markW x v) ∨ ∃ v, m = markS v
theorem isMk.rf {m : D} (h : isMk m) : rfD m = true := by
  rcases h with ⟨v, rfl⟩ | ⟨x, v, rfl⟩ | ⟨x, v, rfl⟩ | ⟨v, rfl⟩ <;> rfl
def MkS (a b : Stt) : Prop := ∃ ms, b.marks = a.marks ++ ms ∧ ∀ m ∈ ms, isMk m
theorem MkS.one {a b : Stt} {m : D} (h : b.marks = a.marks ++ [m]) (hm : isMk m) : MkS a b := ⟨[m], h, fun x hx => by rw [List.mem_singleton.mp hx]; exact hm⟩
theorem MkS.same {a b : Stt} (h : b.marks = a.marks) : MkS a b := ⟨[], by simp [h], fun m h => by cases h⟩
theorem MkS.trans {a b c : Stt} (x : MkS a b) (y : MkS b c) : MkS a c := by
  obtain ⟨m1, e1, h1⟩ := x
  obtain ⟨m2, e2, h2⟩ := y
  exact ⟨m1 ++ m2, by rw [e2, e1, List.append_assoc], fun m hm => (List.mem_append.mp hm).elim (h1 m) (h2 m)⟩
def shT (k : Str → Int) : T := .tup (abcd.map fun x => .int (k x))
def outT (o : Int × Stt) : T := .tup [.int o.1, shT o.2.kept, lints o.2.spoken, .int o.2.many]
section
end
section
variable {ns : List Int} {t : Int}
theorem rules_T (n : Nat) (hl : ns.length ≤ 63) (ht : 0 ≤ t) (hn : 10 ≤ n := by omega) : ∃ rs, RsLaw rs ∧ tv (csem n .f__law_rules) [tscr ns, .int t] = .ok (encRsT rs) := by
  obtain ⟨n, rfl⟩ : ∃ j, n = j + 10 := ⟨n - 10, by omega⟩
  obtain ⟨rs, h, R⟩ := rules_sem n ns t ht hl
  refine ⟨rs, R, tv_pur ?_ (by simp [plTs, (unT_scr ns).2, plT]) (unT_rules rs).2⟩
  simp only [unTs, (unT_scr ns).1, unT, (unT_rules rs).1]
  exact h
theorem light_T (n : Nat) (hl : ns.length ≤ 63) (ht : 0 ≤ t) {rs : List Rule} (R : RsLaw rs) (deep : Nat) {dd : Int} (hd : deep ≤ 50) (hn : 2 * deep + 20 ≤ n := by omega) (hdd : dd = (deep : Int) := by rfl) :
    ∃ d, tv (csem n .f__law_light) [tscr ns, .int t, .int dd, encRsT rs] = .ok (encT d) ∧ okD (szs rs) [] d ∧ dep d ≤ deep ∧ wt (rwt rs) (fun _ => 1) d ≤ 80 := by
  subst hdd
  obtain ⟨d, h, o, dd, w⟩ := light_sem ns hl R deep n hd hn t ht
  refine ⟨d, tv_pur ?_ (by simp [plTs, (unT_scr ns).2, plT, (unT_rules rs).2]) (unT_enc d).2, o, dd, w⟩
  simp only [unTs, (unT_scr ns).1, unT, (unT_rules rs).1, (unT_enc d).1]
  exact h
end
end DL

set_option Elab.async false
set_option linter.all false
set_option maxRecDepth 100000
set_option maxHeartbeats 1000000
namespace DL
open PySem L2
section
variable {τ τ' : TEnv} {p q r : TDen} {g : DL.TG} {u v w : TSDen} {c c' : TDenB} {t : T} {f : TFl} {x : RT TFl} {b : Bool}
theorem t_asg (hp : p τ = .ok t) (hg : g t τ = some τ') (k : w τ' = x) : tsSeq (tsAsg p g) w τ = x := by
  simp only [tsSeq, tsAsg, hp, tsE, hg, tsN]
  exact k
theorem t_asg1 (hp : p τ = .ok t) (hg : g t τ = some τ') : tsAsg p g τ = .ok (.nx τ') := by
  simp only [tsAsg, hp, tsE, hg]
theorem t_skip (hc : c τ = .ok false) (k : w τ = x) : tsSeq (tsIf c u tsNil) w τ = x := by
  simp only [tsSeq, tsIf, hc, tsE, tsNil, tsN]
  exact k
theorem t_if (hc : c τ = .ok b) (k : (if b = true then u τ else v τ) = x) : tsIf c u v τ = x := by
  simp only [tsIf, hc, tsE]
  exact k
theorem t_seq (h : u τ = .ok (.nx τ')) (k : w τ' = x) : tsSeq u w τ = x := by
  simp only [tsSeq, h, tsN]
  exact k
theorem t_seqR (h : u τ = .ok (.rt t)) : tsSeq u w τ = .ok (.rt t) := by
  simp only [tsSeq, h, tsN]
theorem t_ret (hp : p τ = .ok t) : tsRet p τ = .ok (.rt t) := by simp only [tsRet, hp, tsE]
theorem t_run {np nN : Nat} {ts : List T} (hl : ts.length = np) (h : u (ts.map some ++ List.replicate (nN - np) none) = .ok (.rt t)) : trun np nN u ts = .ok t := by
  unfold trun
  rw [if_pos hl, h]
theorem t_own {i : Nat} (hp : p τ = .ok t) (hi : i < τ.length) (k : w (τ.set i (some t)) = x) : tsSeq (tsOwn p i) w τ = x := by
  simp only [tsSeq, tsOwn, hp, tsE, if_pos hi, tsN]
  exact k
theorem t_for {it : TIt} {ts : List T} (hi : it τ = .ok ts) (k : tForL g u ts τ = x) : tsFor it g u τ = x := by
  simp only [tsFor, hi, tsE]
  exact k
end
def okB (n : Nat) : Bool := decide (n ≤ big)
theorem okB_iff {n : Nat} : okB n = true ↔ n ≤ big := decide_eq_true_iff
theorem okB_of {n : Nat} (h : n ≤ 1000) : okB n = true := okB_iff.mpr (Nat.le_trans h (by decide))
theorem okB_big {n : Nat} (h : n ≤ 1000000) : okB n = true := okB_iff.mpr h
@[simp] theorem okB_0 : okB 0 = true := by decide
@[simp] theorem okB_1 : okB 1 = true := by decide
@[simp] theorem okB_2 : okB 2 = true := by decide
@[simp] theorem okB_3 : okB 3 = true := by decide
@[simp] theorem okB_4 : okB 4 = true := by decide
@[simp] theorem okB_5 : okB 5 = true := by decide
@[simp] theorem okB_6 : okB 6 = true := by decide
@[simp] theorem okB_7 : okB 7 = true := by decide
@[simp] theorem okB_8 : okB 8 = true := by decide
@[simp] theorem okB_9 : okB 9 = true := by decide
@[simp] theorem okB_10 : okB 10 = true := by decide
@[simp] theorem okB_11 : okB 11 = true := by decide
@[simp] theorem okB_12 : okB 12 = true := by decide
def asB : T → RT Bool := fun t => match t with
  | .bl b => .ok b
  | _ => .bad
def asI : T → RT (Option Int) := fun d => match d with
  | .int i => .ok (some i)
  | _ => .bad
section
variable {τ : TEnv} {p q r : TDen} {qs : TDenA} {c d : TDenB} {i n : Nat} {t u : T} {ts us : List T} {b : Bool} {a e : Int} {x y : Str} {f : TFn} {o o' : TOp}
@[simp] theorem te_C : tC t τ = .ok t := rfl
@[simp] theorem te_V (h : τ[i]? = some (some t)) : tVar i τ = .ok t := by simp only [tVar, h]
@[simp] theorem te_nil : tNil τ = .ok [] := rfl
@[simp] theorem te_cons : tCons p qs τ = (p τ).bind fun t => (qs τ).bind fun ts => .ok (t :: ts) := rfl
@[simp] theorem te_bin : tBin o p q τ = (p τ).bind fun t => (q τ).bind fun u => o t u := rfl
@[simp] theorem te_call : tCall n f qs τ = (qs τ).bind fun ts => if ts.length = n then f ts else .bad := rfl
@[simp] theorem te_fn : tFn f qs τ = (qs τ).bind f := rfl
@[simp] theorem te_tup : tTup qs τ = (qs τ).bind fun ts => if okB ts.length = true then .ok (.tup ts) else .bad := by simp only [tTup, okB_iff]
@[simp] theorem te_lst : tLst qs τ = (qs τ).bind fun ts => if okB ts.length = true then .ok (.lst ts) else .bad := by simp only [tLst, okB_iff]
@[simp] theorem te_test : tTest p τ = (p τ).bind asB := rfl
@[simp] theorem asB_bl : asB (.bl b) = .ok b := rfl
@[simp] theorem te_and : tbAnd c d τ = (c τ).bind fun k => if k = true then d τ else .ok false := rfl
@[simp] theorem te_or : tbOr c d τ = (c τ).bind fun k => if k = true then .ok true else d τ := rfl
@[simp] theorem te_not : tbNot c τ = (c τ).bind fun k => .ok (!k) := rfl
@[simp] theorem te_if : tIf c p q τ = (c τ).bind fun k => if k = true then p τ else q τ := rfl
@[simp] theorem te_yes : tYes τ = .ok true := rfl
@[simp] theorem te_sl {lo hi : TDenO} : tSl p lo hi τ = (p τ).bind fun d => (lo τ).bind fun l => (hi τ).bind fun u => qSl d l u := rfl
@[simp] theorem te_noPart : tNoPart τ = .ok none := rfl
@[simp] theorem te_part : tPart p τ = (p τ).bind asI := rfl
@[simp] theorem asI_int : asI (.int a) = .ok (some a) := rfl
@[simp] theorem te_hN : hN i t τ = some (τ.set i (some t)) := rfl
@[simp] theorem te_hsNil : hsNil [] τ = some τ := rfl
@[simp] theorem te_hsCons {g : DL.TG} {gs : DL.TGs} : hsCons g gs (t :: ts) τ = (g t τ).bind fun τ => gs ts τ := rfl
@[simp] theorem te_hT {gs : DL.TGs} : hT n gs (.tup ts) τ = if ts.length = n then gs ts τ else none := rfl
@[simp] theorem te_hL {gs : DL.TGs} : hL n gs (.lst ts) τ = if ts.length = n then gs ts τ else none := rfl
@[simp] theorem q_addI : qAdd (.int a) (.int e) = .ok (.int (a + e)) := rfl
@[simp] theorem q_addL : qAdd (.lst ts) (.lst us) = if okB (ts ++ us).length = true then .ok (.lst (ts ++ us)) else .bad := by simp only [qAdd, okB_iff]
@[simp] theorem q_addT : qAdd (.tup ts) (.tup us) = if okB (ts.length + us.length) = true then .ok (.tup (ts ++ us)) else .bad := by simp only [qAdd, okB_iff]
@[simp] theorem q_subI : qSub (.int a) (.int e) = .ok (.int (a - e)) := rfl
theorem q_mulL (h : (-(2 ^ 64) < a ∧ a < 2 ^ 64)) : qMul (.int a) (.int e) = .ok (.int (a * e)) := by
  simp only [qMul_eq, qMul0]
  rw [if_pos (.inl h)]
@[simp] theorem q_lt : qLt (.int a) (.int e) = .ok (.bl (decide (a < e))) := rfl
@[simp] theorem q_le : qLe (.int a) (.int e) = .ok (.bl (decide (a ≤ e))) := rfl
@[simp] theorem q_gt : qGt (.int a) (.int e) = .ok (.bl (decide (e < a))) := rfl
@[simp] theorem q_ge : qGe (.int a) (.int e) = .ok (.bl (decide (e ≤ a))) := rfl
@[simp] theorem q_eqI : qEq (.int a) (.int e) = .ok (.bl (decide (a = e))) := rfl
@[simp] theorem q_neI : qNe (.int a) (.int e) = .ok (.bl (!decide (a = e))) := rfl
@[simp] theorem q_eqS : qEq (.str x) (.str y) = .ok (.bl (decide (x = y))) := rfl
@[simp] theorem q_neS : qNe (.str x) (.str y) = .ok (.bl (!decide (x = y))) := rfl
@[simp] theorem q_getT : qGet (.tup ts) (.int a) = match atI ts a with | some t => .ok t | none => .bad := rfl
@[simp] theorem q_getL : qGet (.lst ts) (.int a) = match atI ts a with | some t => .ok t | none => .bad := rfl
@[simp] theorem q_getS : qGet (.seq ts) (.int a) = match atI ts a with | some t => .ok t | none => .bad := rfl
@[simp] theorem q_lenT : qLen [.tup ts] = .ok (.int ts.length) := rfl
@[simp] theorem q_lenL : qLen [.lst ts] = .ok (.int ts.length) := rfl
@[simp] theorem q_lenS : qLen [.seq ts] = .ok (.int ts.length) := rfl
@[simp] theorem q_slT {lo hi : Option Int} : qSl (.tup ts) lo hi = .ok (.tup (cutT ts lo hi)) := rfl
@[simp] theorem q_slL {lo hi : Option Int} : qSl (.lst ts) lo hi = if okB ts.length = true then .ok (.lst (cutT ts lo hi)) else .bad := by simp only [qSl, okB_iff]
@[simp] theorem q_tuple : qTuple [.lst ts] = .ok (.tup ts) := rfl
@[simp] theorem q_tupleT : qTuple [.tup ts] = .ok (.tup ts) := rfl
@[simp] theorem q_listT : qList [.tup ts] = .ok (.lst ts) := rfl
@[simp] theorem q_listL : qList [.lst ts] = .ok (.lst ts) := rfl
@[simp] theorem q_intB : qI [.bl b] = .ok (.int (if b then 1 else 0)) := rfl
@[simp] theorem q_intI : qI [.int a] = .ok (.int a) := rfl
theorem cut_lo {ts : List T} {k : Nat} (h : k ≤ ts.length) : cutT ts none (some (k : Int)) = ts.take k := by
  unfold cutT
  rw [HT.sIx_nat, HT.sIx_none, Nat.min_eq_left h]
  simp
theorem cut_hi {ts : List T} {k : Nat} : cutT ts (some (k : Int)) none = ts.drop k := by
  unfold cutT
  rw [HT.sIx_nat, HT.sIx_none]
  rcases Nat.le_total k ts.length with h | h
  · rw [Nat.min_eq_left h, List.take_of_length_le]
    simp
  · rw [Nat.min_eq_right h, List.drop_length, List.drop_eq_nil_of_le h]
    simp
theorem cut_lo' {ts : List T} {k : Nat} : cutT ts none (some (k : Int)) = ts.take k := by
  rcases Nat.le_total k ts.length with h | h
  · exact cut_lo h
  · unfold cutT
    rw [HT.sIx_nat, HT.sIx_none, Nat.min_eq_right h, List.take_of_length_le h]
    simp
end
section
variable {it : TIt} {g : DL.TG} {c : TDenB} {e : TDen} {vs : List Nat} {τ : TEnv}
theorem tlc_acc {ts : List T} : ∀ {os : List (Option T)} {acc : List T}, ts.length = os.length → (∀ (i : Nat) (t : T) (o : Option T), ts[i]? = some t → os[i]? = some o → ∃ τ1, g t (twipe τ vs) = some τ1 ∧ c τ1 = .ok o.isSome ∧ ∀ v, o = some v → e τ1 = .ok v) → acc.length + ts.length ≤ 100000 →
    tlcI g c e vs τ ts acc = .ok (acc ++ os.filterMap id) := by
  induction ts with
  | nil =>
    intro os acc hl _ _
    cases os with
    | nil => simp [tlcI]
    | cons => simp at hl
  | cons t ts ih =>
    intro os acc hl h hb
    cases os with
    | nil => simp at hl
    | cons o os =>
      obtain ⟨τ1, h1, h2, h3⟩ := h 0 t o rfl rfl
      have hk : ∀ (i : Nat) (t : T) (o : Option T), ts[i]? = some t → os[i]? = some o → ∃ τ1, g t (twipe τ vs) = some τ1 ∧ c τ1 = .ok o.isSome ∧ ∀ v, o = some v → e τ1 = .ok v := fun i t' o' e1 e2 => h (i + 1) t' o' (by simpa using e1) (by simpa using e2)
      unfold tlcI
      simp only [h1, h2, noXT, RT.bind_ok]
      simp only [List.length_cons] at hb hl
      cases o with
      | none => simp only [Option.isSome_none, Bool.false_eq_true, if_false]; rw [ih (by omega) hk (by omega)]; simp
      | some v =>
        simp only [Option.isSome_some, if_true, h3 v rfl, noXT, RT.bind_ok]
        rw [if_pos (Nat.lt_of_lt_of_le (show acc.length < 100001 by omega) (by decide)), ih (by omega) hk (by simp; omega)]
        simp
theorem t_lcO {ts : List T} {os : List (Option T)} (hi : it τ = .ok ts) (hl : ts.length = os.length) (h : ∀ (i : Nat) (t : T) (o : Option T), ts[i]? = some t → os[i]? = some o → ∃ τ1, g t (twipe τ vs) = some τ1 ∧ c τ1 = .ok o.isSome ∧ ∀ v, o = some v → e τ1 = .ok v) (hb : ts.length ≤ 100000) :
    tLc it g c e vs τ = .ok (.lst (os.filterMap id)) := by
  unfold tLc
  rw [hi, RT.bind_ok, tlc_acc hl h (by simpa using hb)]
  rfl
theorem t_lc {α : Type} {l : List α} {m : α → T} {k : α → Bool} {f : α → T} (hi : it τ = .ok (l.map m)) (h : ∀ a ∈ l, ∃ τ1, g (m a) (twipe τ vs) = some τ1 ∧ c τ1 = .ok (k a) ∧ (k a = true → e τ1 = .ok (f a))) (hb : l.length ≤ 100000) :
    tLc it g c e vs τ = .ok (.lst ((l.filter k).map f)) := by
  have := t_lcO (vs := vs) (g := g) (c := c) (e := e) (os := l.map fun a => if k a = true then some (f a) else none) hi (by simp) (fun i t o h1 h2 => by
    rw [List.getElem?_map] at h1 h2
    obtain ⟨a, ha, rfl⟩ := Option.map_eq_some_iff.mp h1
    rw [ha] at h2
    cases h2
    obtain ⟨τ1, a1, a2, a3⟩ := h a (List.mem_of_getElem? ha)
    refine ⟨τ1, a1, ?_, fun v hv => ?_⟩
    · rw [a2]
      cases hk : k a <;> simp [hk]
    · cases hk : k a with
      | true => simp [hk] at hv; rw [← hv]; exact a3 hk
      | false => simp [hk] at hv) (by simpa using hb)
  rw [this]
  congr 2
  clear this hi h hb
  induction l with
  | nil => rfl
  | cons a l ih =>
    cases hk : k a <;> simp [List.filterMap_cons, List.filter_cons, hk, ← ih]
theorem t_lcA {α : Type} {l : List α} {m : α → T} {f : α → T} (hi : it τ = .ok (l.map m)) (h : ∀ a ∈ l, ∃ τ1, g (m a) (twipe τ vs) = some τ1 ∧ e τ1 = .ok (f a)) (hb : l.length ≤ 100000) : tLc it g tYes e vs τ = .ok (.lst (l.map f)) := by
  have := t_lc (vs := vs) (g := g) (c := tYes) (e := e) (k := fun _ => true) (f := f) hi (fun a ha => by
    obtain ⟨τ1, a1, a2⟩ := h a ha
    exact ⟨τ1, a1, rfl, fun _ => a2⟩) hb
  rw [this, List.filter_eq_self.mpr fun _ _ => rfl]
end
mutual
def nsq : T → Bool
  | .non => true | .bl _ => false | .int _ => true | .str _ => true
  | .tup ts => nsqs ts
  | .seq _ => false
  | .lst ts => nsqs ts
  | .dct _ => false
def nsqs : List T → Bool
  | [] => true
  | t :: ts => nsq t && nsqs ts
end
theorem py_one : ∀ (n : Nat) {t u : T} {p : PyData}, nsq t = true → nsq u = true → py n t = some p → py n u = some p → t = u
  | 0, _, _, _, _, _, h, _ => by cases h
  | n + 1, t, u, p, ht, hu, h, h' => by
    have fl : ∀ {ts us : List T} {ps : List PyData}, nsqs ts = true → nsqs us = true → fall (py n) ts = some ps → fall (py n) us = some ps → ts = us := by
      intro ts
      induction ts with
      | nil =>
        intro us ps _ _ h1 h2
        cases h1
        cases us with
        | nil => rfl
        | cons => unfold fall at h2; split at h2 <;> cases h2
      | cons a ts ih =>
        intro us ps h1 h2 h3 h4
        unfold fall at h3
        split at h3
        · rename_i e1 e2
          cases h3
          cases us with
          | nil => cases h4
          | cons b us =>
            unfold fall at h4
            split at h4
            · rename_i e3 e4
              injection h4 with h4
              injection h4 with h5 h6
              subst h5
              subst h6
              unfold nsqs at h1 h2
              rw [Bool.and_eq_true] at h1 h2
              rw [py_one n h1.1 h2.1 e1 e3, ih h1.2 h2.2 e2 e4]
            · cases h4
        · cases h3
    cases t with
    | bl => cases ht
    | seq => cases ht
    | dct => cases ht
    | non => cases h; cases u <;> first | rfl | (cases h') | (simp [py] at h')
    | int i => cases h; cases u <;> first | (cases h'; rfl) | (simp [py] at h')
    | str i => cases h; cases u <;> first | (cases h'; rfl) | (simp [py] at h')
    | tup ts =>
      obtain ⟨ps, e1, rfl⟩ := Option.map_eq_some_iff.mp (show (fall (py n) ts).map PyData.tuple = some p from h)
      cases u with
      | tup us =>
        obtain ⟨qs, e2, e3⟩ := Option.map_eq_some_iff.mp (show (fall (py n) us).map PyData.tuple = _ from h')
        cases e3
        rw [fl (show nsqs ts = true from ht) (show nsqs us = true from hu) e1 e2]
      | lst us =>
        obtain ⟨qs, e2, e3⟩ := Option.map_eq_some_iff.mp (show (fall (py n) us).map PyData.list = _ from h')
        cases e3
      | seq us => cases hu
      | _ => cases h'
    | lst ts =>
      obtain ⟨ps, e1, rfl⟩ := Option.map_eq_some_iff.mp (show (fall (py n) ts).map PyData.list = some p from h)
      cases u with
      | lst us =>
        obtain ⟨qs, e2, e3⟩ := Option.map_eq_some_iff.mp (show (fall (py n) us).map PyData.list = _ from h')
        cases e3
        rw [fl (show nsqs ts = true from ht) (show nsqs us = true from hu) e1 e2]
      | tup us =>
        obtain ⟨qs, e2, e3⟩ := Option.map_eq_some_iff.mp (show (fall (py n) us).map PyData.tuple = _ from h')
        cases e3
      | seq us => cases hu
      | _ => cases h'
def FineK (k : Nat) (t : T) : Prop := nsq t = true ∧ ∃ p, (∀ n, k < n → py n t = some p) ∧ Lay p k ∧ nb p = true
theorem FineK.mono {k j : Nat} {t : T} (h : FineK k t) (hj : k ≤ j) : FineK j t := by
  obtain ⟨a, p, b, c, d⟩ := h
  exact ⟨a, p, fun n hn => b n (by omega), c.mono hj, d⟩
theorem FineK.non (k : Nat) : FineK k .non := ⟨rfl, .none, fun n hn => (by obtain ⟨m, rfl⟩ : ∃ m, n = m + 1 := ⟨n - 1, by omega⟩; rfl), ⟨rfl, by rw [PyData.depth]; omega⟩, rfl⟩
theorem FineK.int (k : Nat) (i : Int) : FineK k (.int i) := ⟨rfl, .int i, fun n hn => (by obtain ⟨m, rfl⟩ : ∃ m, n = m + 1 := ⟨n - 1, by omega⟩; rfl), .int i k, rfl⟩
theorem FineK.str (k : Nat) {x : Str} (h : sok x = true) : FineK k (.str x) := ⟨rfl, .str x, fun n hn => (by obtain ⟨m, rfl⟩ : ∃ m, n = m + 1 := ⟨n - 1, by omega⟩; rfl), .str h k, rfl⟩
def FineL (k : Nat) (ts : List T) : Prop := nsqs ts = true ∧ ∃ ps, (∀ n, k < n → fall (py n) ts = some ps) ∧ Lays ps k ∧ nbs ps = true
theorem FineL.nil (k : Nat) : FineL k [] := ⟨rfl, [], fun _ _ => rfl, .nil k, rfl⟩
theorem FineL.cons {k : Nat} {t : T} {ts : List T} (h : FineK k t) (hs : FineL k ts) : FineL k (t :: ts) := by
  obtain ⟨a, p, b, c, d⟩ := h
  obtain ⟨a', p', b', c', d'⟩ := hs
  exact ⟨by simp [nsqs, a, a'], p :: p', fun n hn => fall_cons (b n hn) (b' n hn), .cons c c', by simp [nbs, d, d']⟩
theorem FineL.all {k : Nat} : ∀ {ts : List T}, (∀ t ∈ ts, FineK k t) → FineL k ts
  | [], _ => .nil k
  | t :: ts, h => .cons (h t List.mem_cons_self) (FineL.all fun u hu => h u (List.mem_cons_of_mem _ hu))
theorem FineK.tup {k : Nat} {ts : List T} (h : FineL k ts) : FineK (k + 1) (.tup ts) := by
  obtain ⟨a, p, b, c, d⟩ := h
  refine ⟨a, .tuple p, fun n hn => ?_, .tup c, d⟩
  obtain ⟨m, rfl⟩ : ∃ m, n = m + 1 := ⟨n - 1, by omega⟩
  show (fall (py m) ts).map PyData.tuple = _
  rw [b m (by omega)]
  rfl
theorem FineK.lst {k : Nat} {ts : List T} (h : FineL k ts) : FineK (k + 1) (.lst ts) := by
  obtain ⟨a, p, b, c, d⟩ := h
  refine ⟨a, .list p, fun n hn => ?_, .lst c, d⟩
  obtain ⟨m, rfl⟩ : ∃ m, n = m + 1 := ⟨n - 1, by omega⟩
  show (fall (py m) ts).map PyData.list = _
  rw [b m (by omega)]
  rfl
abbrev Fine (t : T) : Prop := FineK 38 t
theorem sEqT_dec {t u : T} {b : Bool} [Decidable (t = u)] (ht : nsq t = true) (hu : nsq u = true) (h : sEqT t u = some b) : b = decide (t = u) := by
  unfold sEqT at h
  split at h <;> first | (cases h; simp; done) | (cases ht; done) | (cases hu; done) | (cases h; done)
theorem eqT_fine {t u : T} (ht : Fine t) (hu : Fine u) [Decidable (t = u)] : eqT t u = some (decide (t = u)) := by
  obtain ⟨a, p, b, c, d⟩ := ht
  obtain ⟨a', p', b', c', d'⟩ := hu
  have e1 := b deep (by decide)
  have e2 := b' deep (by decide)
  have key : (if SeqAt.shaped p = true ∧ SeqAt.shaped p' = true then some (PyData.eqv p p') else none) = some (decide (t = u)) := by
    rw [if_pos ⟨c.shaped (by decide), c'.shaped (by decide)⟩]
    congr 1
    rw [Bool.eq_iff_iff, eqv_iff p p' d d', decide_eq_true_iff]
    constructor
    · rintro rfl
      exact py_one deep a a' e1 e2
    · rintro rfl
      rw [e1] at e2
      cases e2
      rfl
  have gen : sEqT t u = none → eqT t u = some (decide (t = u)) := fun h => by
    unfold eqT
    rw [h, e1, e2]
    exact key
  cases h : sEqT t u with
  | none => exact gen h
  | some b =>
    unfold eqT
    rw [h, sEqT_dec a a' h]
open Classical in
theorem qEq_fine {t u : T} (ht : Fine t) (hu : Fine u) : qEq t u = .ok (.bl (decide (t = u))) := by
  unfold qEq
  rw [eqT_fine ht hu]
open Classical in
theorem qNe_fine {t u : T} (ht : Fine t) (hu : Fine u) : qNe t u = .ok (.bl (!decide (t = u))) := by
  unfold qNe
  rw [eqT_fine ht hu]
theorem qEq_same {t u : T} (h : Fine t) (e : t = u) : qEq t u = .ok (.bl true) := by
  subst e
  rw [qEq_fine h h]
  simp
theorem qNe_same {t u : T} (h : Fine t) (e : t = u) : qNe t u = .ok (.bl false) := by
  subst e
  rw [qNe_fine h h]
  simp
theorem qNe_not {t u : T} (h : Fine t) (h' : Fine u) (e : t ≠ u) : qNe t u = .ok (.bl true) := by
  rw [qNe_fine h h']
  simp [e]
theorem qEq_not {t u : T} (h : Fine t) (h' : Fine u) (e : t ≠ u) : qEq t u = .ok (.bl false) := by
  rw [qEq_fine h h']
  simp [e]
theorem fall_any {n : Nat} {t : T} {p : PyData} (ht : nsq t = true) (hp : py n t = some p) (hnb : nb p = true) : ∀ {us : List T} {ps : List PyData}, nsqs us = true → fall (py n) us = some ps → nbs ps = true → ((ps.any fun z => PyData.eqv z p) = true ↔ t ∈ us)
  | [], _, _, e, _ => by cases e; simp
  | u :: us, _, h, e, hb => by
    unfold fall at e
    split at e
    · rename_i a r e1 e2
      cases e
      unfold nsqs at h
      rw [Bool.and_eq_true] at h
      unfold nbs at hb
      rw [Bool.and_eq_true] at hb
      rw [List.any_cons, Bool.or_eq_true, fall_any ht hp hnb h.2 e2 hb.2, List.mem_cons, eqv_iff _ _ hb.1 hnb]
      constructor
      · rintro (rfl | h2)
        · exact .inl (py_one n ht h.1 hp e1)
        · exact .inr h2
      · rintro (rfl | h2)
        · rw [hp] at e1; cases e1; exact .inl rfl
        · exact .inr h2
    · cases e
theorem flat_any {t : T} (ht : nsq t = true) (hf : flatT t = true) : ∀ {us : List T}, nsqs us = true → us.all flatT = true → ((us.any fun z => eqFT z t) = true ↔ t ∈ us)
  | [], _, _ => by simp
  | u :: us, h, e => by
    unfold nsqs at h
    rw [Bool.and_eq_true] at h
    rw [List.all_cons, Bool.and_eq_true] at e
    rw [List.any_cons, Bool.or_eq_true, flat_any ht hf h.2 e.2, List.mem_cons]
    have : eqFT u t = true ↔ t = u := by
      cases t <;> first | (cases ht; done) | (cases hf; done) | (have h1 := h.1; have e1 := e.1; cases u <;> first | (cases h1; done) | (cases e1; done) | (simp only [eqFT, beq_iff_eq, T.int.injEq]; exact eq_comm) | (simp only [eqFT, beq_iff_eq, T.str.injEq]; exact eq_comm) | (simp [eqFT]; done))
    rw [this]
open Classical in
theorem inS_fine {t u : T} {us : List T} (ht : Fine t) (hu : FineL 37 us) (e : u = .lst us ∨ u = .tup us) : inS t u = some (decide (t ∈ us)) := by
  have ei : itsT u = some us := by rcases e with rfl | rfl <;> rfl
  unfold inS
  rw [ei]
  obtain ⟨a, p, b, c, d⟩ := ht
  obtain ⟨a', ps, b', c', d'⟩ := hu
  simp only
  split
  · rename_i hf
    congr 1
    rw [Bool.eq_iff_iff, flat_any a hf.1 a' hf.2, decide_eq_true_iff]
  · have e1 := b deep (by decide)
    have e1' := b 39 (by decide)
    have e3 : (ps.any fun z => PyData.eqv z p) = decide (t ∈ us) := by
      rw [Bool.eq_iff_iff, fall_any a e1' d a' (b' 39 (by decide)) d', decide_eq_true_iff]
    have e2 : py deep u = some (.list ps) ∨ py deep u = some (.tuple ps) := by
      rcases e with rfl | rfl
      · left
        show (fall (py 39) us).map PyData.list = _
        rw [b' 39 (by decide)]
        rfl
      · right
        show (fall (py 39) us).map PyData.tuple = _
        rw [b' 39 (by decide)]
        rfl
    rw [e1]
    have s1 := c.shaped (by decide)
    rcases e2 with e2 | e2
    · have s2 := (Lay.lst c').shaped (by decide)
      rw [e2]
      simp only [s1, s2, and_self, if_true, e3]
    · have s2 := (Lay.tup c').shaped (by decide)
      rw [e2]
      simp only [s1, s2, and_self, if_true, e3]
theorem inT_of {t u : T} {us : List T} (e : u = .lst us ∨ u = .tup us) : inT t u = inS t u := by
  rcases e with rfl | rfl <;> cases t <;> rfl
open Classical in
theorem qIn_fine {t u : T} {us : List T} (ht : Fine t) (hu : FineL 37 us) (e : u = .lst us ∨ u = .tup us) : qIn t u = .ok (.bl (decide (t ∈ us))) := by
  unfold qIn
  rw [inT_of e, inS_fine ht hu e]
open Classical in
theorem qNotIn_fine {t u : T} {us : List T} (ht : Fine t) (hu : FineL 37 us) (e : u = .lst us ∨ u = .tup us) : qNotIn t u = .ok (.bl !(decide (t ∈ us))) := by
  unfold qNotIn
  rw [inT_of e, inS_fine ht hu e]
end DL
namespace DL
open PySem L2
theorem law_end {f : Fn} {ns : List Int} (h : tv f [tscr ns] = .ok (.bl true)) : ∃ S, f [.seq (ns.map D.int)] [] = .ok (.bl true) S := by
  have a := tv_at f [tscr ns] (fun _ => False) [] [scr ns] (.cons (.seq (rd_ints ns)) .nil) (fun _ q => q.elim)
  rw [h] at a
  obtain ⟨S, d, e, _, r⟩ := a
  cases r
  exact ⟨S, e⟩
section
variable {g : DL.TG} {c : TDenB} {e : TDen} {vs : List Nat} {τ : TEnv} {t : T} {ts acc : List T} {p q : TDen} {a b : Int}
@[simp] theorem noX_ok {α : Type} {x : α} : noXT (.ok x) = .ok x := rfl
theorem ti_range1 {n : Nat} (h : p τ = .ok (.int (n : Int))) (hn : n ≤ 100000) : tiRange1 p τ = .ok ((List.range n).map fun (k : Nat) => T.int (k : Int)) := by
  unfold tiRange1
  rw [h, RT.bind_ok]
  have : okRb (n : Int) = true := okRb_iff.mpr (okR_of (by omega) (by omega))
  simp only [if_pos this, numsT, Int.toNat_natCast, Int.zero_add]
theorem ti_any {l : T} (h : p τ = .ok l) (hl : l = .lst ts ∨ l = .tup ts ∨ l = .seq ts) : tiAny p τ = .ok ts := by
  unfold tiAny
  rw [h]
  rcases hl with rfl | rfl | rfl <;> rfl
end
end DL
namespace DL
open PySem L2
section
variable {o : Int × Stt} {ps : List Int × Stt} {xs ys : List Int} {m : Nat} {t : T}
@[simp] theorem g_out0 : qGet (outT o) (.int 0) = .ok (.int o.1) := rfl
@[simp] theorem g_out1 : qGet (outT o) (.int 1) = .ok (shT o.2.kept) := rfl
@[simp] theorem g_out2 : qGet (outT o) (.int 2) = .ok (lints o.2.spoken) := rfl
@[simp] theorem g_out3 : qGet (outT o) (.int 3) = .ok (.int o.2.many) := rfl
@[simp] theorem q_addLi : qAdd (lints xs) (lints ys) = if okB (xs.length + ys.length) = true then .ok (lints (xs ++ ys)) else .bad := by
  simp [lints]
theorem mul31 {a : Int} : qMul (.int 31) (.int a) = .ok (.int (31 * a)) := q_mulL (by decide)
theorem q_mulR (h : m ≤ 100000) : qMul (.lst [t]) (.int (m : Int)) = .ok (.lst (List.replicate m t)) := by
  simp only [qMul_eq, qMul0, List.length_singleton, Nat.one_mul, Int.toNat_natCast]
  rw [if_pos ⟨by omega, by omega, Nat.le_trans h (by decide)⟩]
  congr 2
  induction m with
  | zero => rfl
  | succ k ih => rw [List.replicate_succ, List.flatten_cons, ih (by omega)]; rfl
end
end DL

set_option Elab.async false
set_option linter.all false
set_option maxRecDepth 100000
set_option maxHeartbeats 1000000
namespace DL
open PySem L2
theorem RsLaw.take {rs : List Rule} (R : RsLaw rs) (k : Nat) : RsLaw (rs.take k) := by
  refine ⟨⟨fun i r e => ?_, fun r h => R.r.dep r (List.mem_of_mem_take h), fun r h => R.r.len r (List.mem_of_mem_take h)⟩, ?_, fun r h => R.dep r (List.mem_of_mem_take h), fun r h => R.sz r (List.mem_of_mem_take h)⟩
  · have hi : i < k := by
      have := (List.getElem?_eq_some_iff.mp e).1
      rw [List.length_take] at this
      omega
    rw [List.getElem?_take_of_lt hi] at e
    rw [List.take_take, Nat.min_eq_left (by omega)]
    exact R.r.ok i r e
  · have := R.len
    rw [List.length_take]
    omega
section
end
end DL

set_option Elab.async false
set_option linter.all false
set_option maxRecDepth 100000
set_option maxHeartbeats 1000000
namespace DL
open PySem L2
open KS (rise tLt ord_tup mem_rise Rising)
abbrev Mk := List Str
abbrev MR := List (List Str × List Mk)
def mR (x : Str) : Mk := ["read", x]
def mW (x : Str) : Mk := ["write", x]
def mD (x : Str) : Mk := ["do", x]
def mS : Mk := ["say"]
def mA : Mk := ["ask"]
def atCall (hs : List Str) (ms : List (List Mk)) (m : Mk) : List Mk := match m with
  | [w, x] => if w = ("do" : Str) then (match firstAt x hs with
    | some j => ms.getD j []
    | none => []) else [m]
  | m => [m]
def ruleAt (R : MR) (i : Nat) : List Str × List Mk := R.getD i ([], [])
mutual
def mkD (R : MR) : Deed → List Mk
  | .num _ => []
  | .nam _ => []
  | .dod x => [mD x]
  | .ask => [mA]
  | .rd x => [mR x]
  | .wr x a => rise tLt (mW x :: mkD R a)
  | .say a => rise tLt (mS :: mkD R a)
  | .lt _ a b => rise tLt (mkD R a ++ mkD R b)
  | .own x a b => rise tLt (mkD R a ++ (mkD R b).filter fun m => !(m == mR x) && !(m == mW x))
  | .iff a b c => rise tLt (mkD R a ++ mkD R b ++ mkD R c)
  | .two _ a b => rise tLt (mkD R a ++ mkD R b)
  | .call i ps hs => rise tLt ((mkDs R ps).flatten ++ (ruleAt R i).2.flatMap (atCall (ruleAt R i).1 (mkDs R hs)))
def mkDs (R : MR) : List Deed → List (List Mk)
  | [] => []
  | d :: ds => mkD R d :: mkDs R ds
end
theorem mkDs_map (R : MR) : ∀ ds : List Deed, mkDs R ds = ds.map (mkD R)
  | [] => rfl
  | d :: ds => by rw [mkDs, mkDs_map R ds]; rfl
def rmk (rs : List Rule) : MR := rs.foldl (fun R r => R ++ [(r.hs, mkD R r.b)]) []
theorem rmk_snoc (rs : List Rule) (r : Rule) : rmk (rs ++ [r]) = rmk rs ++ [(r.hs, mkD (rmk rs) r.b)] := by
  unfold rmk
  rw [List.foldl_append]
  rfl
theorem rmk_len : ∀ rs : List Rule, (rmk rs).length = rs.length := snoc_ind rfl fun l r ih => by rw [rmk_snoc]; simp [ih]
theorem ruleAt_app {R E : MR} {i : Nat} (h : i < R.length) : ruleAt (R ++ E) i = ruleAt R i := by
  unfold ruleAt
  rw [List.getD_eq_getElem?_getD, List.getD_eq_getElem?_getD, List.getElem?_append_left h]
theorem mkD_app {sz : List (Nat × Nat)} {R E : MR} (hl : sz.length ≤ R.length) : ∀ (m : Nat) (d : Deed) {K : List Str}, dep d ≤ m → okD sz K d → mkD (R ++ E) d = mkD R d := by
  have lists : ∀ m, (∀ (d : Deed) {K : List Str}, dep d ≤ m → okD sz K d → mkD (R ++ E) d = mkD R d) → ∀ (ds : List Deed) {K : List Str}, deps ds ≤ m → okDs sz K ds → mkDs (R ++ E) ds = mkDs R ds := by
    intro m ih ds
    induction ds with
    | nil => intros; rfl
    | cons d ds ihs =>
      intro K hd ho
      simp only [deps] at hd
      simp only [mkDs]
      rw [ih d (by omega) ho.1, ihs (by omega) ho.2]
  intro m
  induction m with
  | zero =>
    intro d K hd ho
    cases d <;> first | rfl | (simp only [dep] at hd; omega)
  | succ m ih =>
    intro d K hd ho
    cases d <;> simp only [dep] at hd <;> simp only [okD] at ho <;> simp only [mkD]
    · rw [ih _ (by omega) ho.2]
    · rw [ih _ (by omega) ho]
    · rw [ih _ (by omega) ho.2.1, ih _ (by omega) ho.2.2]
    · rw [ih _ (by omega) ho.2.1, ih _ (by omega) ho.2.2]
    · rw [ih _ (by omega) ho.1, ih _ (by omega) ho.2.1, ih _ (by omega) ho.2.2]
    · rw [ih _ (by omega) ho.1, ih _ (by omega) ho.2]
    · have hi := (List.getElem?_eq_some_iff.mp ho.1).1
      rw [lists m ih _ (by omega) ho.2.1, lists m ih _ (by omega) ho.2.2, ruleAt_app (by omega)]
theorem rmk_at : ∀ (rs : List Rule) (i : Nat) (r : Rule), okRs rs → rs[i]? = some r → ruleAt (rmk rs) i = (r.hs, mkD (rmk rs) r.b) := snoc_ind (by intro i r _ h; simp at h) fun l a ih i r ho h => by
  have hol : okRs l := fun j q hq => by
    have hj := (List.getElem?_eq_some_iff.mp hq).1
    have := ho j q (by rw [List.getElem?_append_left hj]; exact hq)
    rwa [List.take_append_of_le_length (by omega)] at this
  have hb := ho i r h
  rw [rmk_snoc]
  by_cases hi : i < l.length
  · rw [List.getElem?_append_left hi] at h
    rw [ruleAt_app (by rw [rmk_len]; exact hi), ih i r hol h, mkD_app (sz := szs (l.take i)) (by rw [rmk_len]; simp [szs]; omega) (dep r.b) r.b (Nat.le_refl _) (hol i r h).b]
  · have e : i = l.length := by
      have := (List.getElem?_eq_some_iff.mp h).1
      simp at this
      omega
    subst e
    rw [List.getElem?_append_right (Nat.le_refl _), Nat.sub_self] at h
    have e0 : a = r := Option.some.inj h
    subst e0
    rw [List.take_append_of_le_length (Nat.le_refl _), List.take_length] at hb
    have e1 : ruleAt (rmk l ++ [(a.hs, mkD (rmk l) a.b)]) l.length = (a.hs, mkD (rmk l) a.b) := by
      unfold ruleAt
      rw [List.getD_eq_getElem?_getD, List.getElem?_append_right (by rw [rmk_len]; exact Nat.le_refl _), rmk_len, Nat.sub_self]
      rfl
    rw [e1, mkD_app (sz := szs l) (by rw [rmk_len]; simp [szs]) (dep a.b) a.b (Nat.le_refl _) hb.b]

def okM (K : List Str) (m : Mk) : Prop := m = mS ∨ m = mA ∨ (∃ x, (x ∈ K ∧ kd x = 2 ∨ x ∈ abcd) ∧ (m = mR x ∨ m = mW x)) ∨ ∃ x, x ∈ K ∧ kd x = 3 ∧ m = mD x
def allM : List Mk := [mS, mA] ++ (["p", "q", "a", "b", "c", "d"] : List Str).flatMap (fun x => [mR x, mW x]) ++ (["f", "g1", "g"] : List Str).map mD
theorem kd2_in {x : Str} (h : kd x = 2) : x ∈ (["p", "q"] : List Str) := by
  unfold kd at h
  split at h
  · omega
  · split at h
    · assumption
    · split at h <;> omega
theorem kd3_in {x : Str} (h : kd x = 3) : x ∈ (["f", "g1", "g"] : List Str) := by
  unfold kd at h
  split at h
  · omega
  · split at h
    · omega
    · split at h
      · assumption
      · omega
theorem okM_all {K : List Str} {m : Mk} (h : okM K m) : m ∈ allM := by
  unfold allM
  rcases h with rfl | rfl | ⟨x, hx, e⟩ | ⟨x, _, hx, rfl⟩
  · simp
  · simp
  · refine List.mem_append_left _ (List.mem_append_right _ (List.mem_flatMap.mpr ⟨x, ?_, by rcases e with rfl | rfl <;> simp⟩))
    rcases hx with ⟨_, hx⟩ | hx
    · exact List.mem_append_left abcd (kd2_in hx)
    · exact List.mem_append_right (["p", "q"] : List Str) hx
  · exact List.mem_append_right _ (List.mem_map_of_mem (kd3_in hx))
theorem few_marks {l : List Mk} (h : ∀ m ∈ l, m ∈ allM) : (rise tLt l).length < 64 := by
  have := KS.nodup_len (rise tLt l) allM (KS.rising_nodup ord_tup (KS.rising_rise ord_tup l)) fun m hm => h m ((mem_rise ord_tup).mp hm)
  exact Nat.lt_of_le_of_lt this (by decide)
theorem firstAt_in {x : Str} : ∀ {hs : List Str}, x ∈ hs → ∃ j, firstAt x hs = some j ∧ j < hs.length
  | [], h => nomatch h
  | y :: r, h => by
    unfold firstAt
    by_cases e : y = x
    · exact ⟨0, if_pos e, by simp⟩
    · rw [if_neg e]
      obtain ⟨j, h1, h2⟩ := firstAt_in (List.mem_of_ne_of_mem (fun z => e z.symm) h)
      exact ⟨j + 1, by rw [h1]; rfl, by simpa using h2⟩
theorem at_say (hs : List Str) (ms : List (List Mk)) : atCall hs ms mS = [mS] := rfl
theorem at_ask (hs : List Str) (ms : List (List Mk)) : atCall hs ms mA = [mA] := rfl
theorem at_rd (hs : List Str) (ms : List (List Mk)) (x : Str) : atCall hs ms (mR x) = [mR x] := by
  show (if ("read" : Str) = ("do" : Str) then (match firstAt x hs with | some j => ms.getD j [] | none => []) else [mR x]) = _
  exact if_neg (by decide +kernel)
theorem at_wr (hs : List Str) (ms : List (List Mk)) (x : Str) : atCall hs ms (mW x) = [mW x] := by
  show (if ("write" : Str) = ("do" : Str) then (match firstAt x hs with | some j => ms.getD j [] | none => []) else [mW x]) = _
  exact if_neg (by decide +kernel)
theorem at_do {hs : List Str} {ms : List (List Mk)} {x : Str} {j : Nat} (h : firstAt x hs = some j) : atCall hs ms (mD x) = ms.getD j [] := by
  show (if ("do" : Str) = ("do" : Str) then (match firstAt x hs with | some j => ms.getD j [] | none => []) else [mD x]) = _
  rw [if_pos rfl, h]
def okMR (rs : List Rule) (R : MR) : Prop := ∀ (i : Nat) (r : Rule), rs[i]? = some r → (ruleAt R i).1 = r.hs ∧ ∀ m ∈ (ruleAt R i).2, okM (r.ns ++ r.hs) m
theorem mk_ok {rs : List Rule} {R : MR} (hR : okMR rs R) (hk : ∀ (i : Nat) (r : Rule), rs[i]? = some r → (∀ x ∈ r.ns, kd x = 1) ∧ ∀ x ∈ r.hs, kd x = 3) :
    ∀ (n : Nat) (d : Deed) {K : List Str}, dep d ≤ n → okD (szs rs) K d → ∀ m ∈ mkD R d, okM K m := by
  have lists : ∀ n, (∀ (d : Deed) {K : List Str}, dep d ≤ n → okD (szs rs) K d → ∀ m ∈ mkD R d, okM K m) → ∀ (ds : List Deed) {K : List Str}, deps ds ≤ n → okDs (szs rs) K ds → ∀ l ∈ mkDs R ds, ∀ m ∈ l, okM K m := by
    intro n ih ds
    induction ds with
    | nil => intro K _ _ l hl; exact nomatch hl
    | cons d ds ihs =>
      intro K hd ho l hl
      simp only [deps] at hd
      simp only [mkDs] at hl
      rcases List.mem_cons.mp hl with rfl | hl
      · exact ih d (by omega) ho.1
      · exact ihs (by omega) ho.2 l hl
  have cons_ : ∀ {x : Str} {K : List Str} {m : Mk}, (kd x = 1 ∨ (kd x = 2 ∧ m ≠ mR x ∧ m ≠ mW x)) → okM (x :: K) m → okM K m := by
    intro x K m hx hm
    rcases hm with e | e | ⟨y, hy, e⟩ | ⟨y, hy, ky, e⟩
    · exact .inl e
    · exact .inr (.inl e)
    · refine .inr (.inr (.inl ⟨y, ?_, e⟩))
      rcases hy with ⟨hy, ky⟩ | hy
      · rcases List.mem_cons.mp hy with rfl | hy
        · rcases hx with h1 | ⟨_, n1, n2⟩
          · omega
          · rcases e with rfl | rfl
            · exact absurd rfl n1
            · exact absurd rfl n2
        · exact .inl ⟨hy, ky⟩
      · exact .inr hy
    · rcases List.mem_cons.mp hy with rfl | hy
      · rcases hx with h1 | ⟨h1, _⟩ <;> omega
      · exact .inr (.inr (.inr ⟨y, hy, ky, e⟩))
  intro n
  induction n with
  | zero =>
    intro d K hd ho m hm
    cases d <;> simp only [mkD] at hm <;> first | (simp only [dep] at hd; omega) | (simp only [List.not_mem_nil] at hm) | skip
    · rw [List.mem_singleton.mp hm]; exact .inr (.inr (.inr ⟨_, ho.1, ho.2, rfl⟩))
    · rw [List.mem_singleton.mp hm]; exact .inr (.inl rfl)
    · rw [List.mem_singleton.mp hm]; exact .inr (.inr (.inl ⟨_, ho, .inl rfl⟩))
  | succ n ih =>
    intro d K hd ho m hm
    cases d <;> simp only [dep] at hd <;> simp only [okD] at ho <;> simp only [mkD] at hm
    · exact nomatch hm
    · exact nomatch hm
    · rw [List.mem_singleton.mp hm]; exact .inr (.inr (.inr ⟨_, ho.1, ho.2, rfl⟩))
    · rw [List.mem_singleton.mp hm]; exact .inr (.inl rfl)
    · rw [List.mem_singleton.mp hm]; exact .inr (.inr (.inl ⟨_, ho, .inl rfl⟩))
    · rcases List.mem_cons.mp ((mem_rise ord_tup).mp hm) with rfl | hm
      · exact .inr (.inr (.inl ⟨_, ho.1, .inr rfl⟩))
      · exact ih _ (by omega) ho.2 m hm
    · rcases List.mem_cons.mp ((mem_rise ord_tup).mp hm) with rfl | hm
      · exact .inl rfl
      · exact ih _ (by omega) ho m hm
    · rcases List.mem_append.mp ((mem_rise ord_tup).mp hm) with hm | hm
      · exact ih _ (by omega) ho.2.1 m hm
      · exact cons_ (.inl ho.1) (ih _ (by omega) ho.2.2 m hm)
    · rcases List.mem_append.mp ((mem_rise ord_tup).mp hm) with hm | hm
      · exact ih _ (by omega) ho.2.1 m hm
      · obtain ⟨hm, hf⟩ := List.mem_filter.mp hm
        simp only [Bool.and_eq_true, Bool.not_eq_true', beq_eq_false_iff_ne, ne_eq] at hf
        exact cons_ (.inr ⟨ho.1, hf.1, hf.2⟩) (ih _ (by omega) ho.2.2 m hm)
    · rcases List.mem_append.mp ((mem_rise ord_tup).mp hm) with hm | hm
      · rcases List.mem_append.mp hm with hm | hm
        · exact ih _ (by omega) ho.1 m hm
        · exact ih _ (by omega) ho.2.1 m hm
      · exact ih _ (by omega) ho.2.2 m hm
    · rcases List.mem_append.mp ((mem_rise ord_tup).mp hm) with hm | hm
      · exact ih _ (by omega) ho.1 m hm
      · exact ih _ (by omega) ho.2 m hm
    · rename_i i ps hs
      rcases List.mem_append.mp ((mem_rise ord_tup).mp hm) with hm | hm
      · obtain ⟨l, hl, hm⟩ := List.mem_flatten.mp hm
        exact lists n ih ps (by omega) ho.2.1 l hl m hm
      · obtain ⟨b, hb, hm⟩ := List.mem_flatMap.mp hm
        obtain ⟨r, hr, e⟩ : ∃ r, rs[i]? = some r ∧ (r.ns.length, r.hs.length) = (ps.length, hs.length) := by
          have z := ho.1
          unfold szs at z
          rw [List.getElem?_map] at z
          exact Option.map_eq_some_iff.mp z
        obtain ⟨h1, h2⟩ := hR i r hr
        obtain ⟨k1, k3⟩ := hk i r hr
        rw [h1] at hm
        rcases h2 b hb with rfl | rfl | ⟨x, hx, e2⟩ | ⟨x, hx, kx, rfl⟩
        · rw [at_say, List.mem_singleton] at hm; rw [hm]; exact .inl rfl
        · rw [at_ask, List.mem_singleton] at hm; rw [hm]; exact .inr (.inl rfl)
        · have hx' : x ∈ abcd := by
            rcases hx with ⟨hx, kx⟩ | hx
            · rcases List.mem_append.mp hx with hx | hx
              · have := k1 x hx; omega
              · have := k3 x hx; omega
            · exact hx
          rcases e2 with rfl | rfl
          · rw [at_rd, List.mem_singleton] at hm; rw [hm]; exact .inr (.inr (.inl ⟨x, .inr hx', .inl rfl⟩))
          · rw [at_wr, List.mem_singleton] at hm; rw [hm]; exact .inr (.inr (.inl ⟨x, .inr hx', .inr rfl⟩))
        · have hx' : x ∈ r.hs := by
            rcases List.mem_append.mp hx with hx | hx
            · have := k1 x hx; omega
            · exact hx
          obtain ⟨j, hj, lj⟩ := firstAt_in hx'
          rw [at_do hj] at hm
          have lj2 : j < (mkDs R hs).length := by
            rw [mkDs_map, List.length_map]
            injection e with _ e2
            omega
          rw [List.getD_eq_getElem?_getD, List.getElem?_eq_getElem lj2, Option.getD_some] at hm
          exact lists n ih hs (by omega) ho.2.2 _ (List.getElem_mem lj2) m hm
end DL

set_option Elab.async false
set_option linter.all false
set_option maxRecDepth 100000
set_option maxHeartbeats 1000000
namespace DL
open PySem
open KS (rise tLt ord_tup mem_rise Rising)
theorem fall_strX : ∀ k : List Str, fall strX (k.map T.str) = some k
  | [] => rfl
  | x :: k => by simp only [List.map_cons, fall, strX, fall_strX k]
theorem keyXT_un {k : List Str} (h : k ≠ []) : keyXT (unX k) = some k := by
  unfold unX
  simp only [keyXT, fall_strX]
  cases k with
  | nil => exact absurd rfl h
  | cons a r => rfl
theorem fall_keyX : ∀ {l : List Mk}, (∀ m ∈ l, m ≠ []) → fall keyXT (l.map unX) = some l
  | [], _ => rfl
  | m :: l, h => by simp only [List.map_cons, fall, keyXT_un (h m List.mem_cons_self), fall_keyX fun z hz => h z (List.mem_cons_of_mem _ hz)]
theorem allM_ne : ∀ m ∈ allM, m ≠ [] := by decide +kernel
theorem allM_len : allM.length = 17 := by decide +kernel
theorem qSS_marks {l : List Mk} (h : ∀ m ∈ l, m ∈ allM) : qSS (.lst (l.map unX)) = .ok (.lst ((rise tLt l).map unX)) := by
  have e : sSSk keyXT tLt unX (.lst (l.map unX)) = .ok (.lst ((rise tLt l).map unX)) := by
    unfold sSSk
    simp only [litsT, fall_keyX fun m hm => allM_ne m (h m hm), if_pos (few_marks h)]
  unfold qSS
  rw [e]
theorem once_T {n : Nat} {l : List Mk} (h : ∀ m ∈ l, m ∈ allM) (hn : 2 ≤ n) : tv (csem n .f_once) [.lst (l.map unX)] = .ok (.lst ((rise tLt l).map unX)) := by
  obtain ⟨k, rfl⟩ : ∃ k, n = k + 2 := ⟨n - 2, by omega⟩
  refine cq_f_once ?_ (by simp)
  unfold ct_f_once
  refine t_run rfl (t_ret ?_)
  show (RT.ok (T.lst (l.map unX))).bind qSS = _
  rw [RT.bind_ok, qSS_marks h]
def isTp : T → Bool
  | .tup _ => true
  | _ => false
def okTop (t : T) : Prop := (∃ x, t = .str x) ∨ (∃ i, t = .int i) ∨ ∃ us, t = .tup us
theorem kit_top {t : T} (h : okTop t) : L2.kitB (tyT t) "tuple" = some (isTp t) := by
  rcases h with ⟨x, rfl⟩ | ⟨x, rfl⟩ | ⟨x, rfl⟩
  · show L2.kitB "str" "tuple" = some false; decide +kernel
  · show L2.kitB "int" "tuple" = some false; decide +kernel
  · show L2.kitB "tuple" "tuple" = some true; decide +kernel
theorem top_enc : ∀ d : Deed, ∃ us, encT d = .tup us
  | .num _ => ⟨_, rfl⟩ | .nam _ => ⟨_, rfl⟩ | .dod _ => ⟨_, rfl⟩ | .ask => ⟨_, rfl⟩ | .rd _ => ⟨_, rfl⟩ | .wr _ _ => ⟨_, rfl⟩ | .say _ => ⟨_, rfl⟩
  | .lt _ _ _ => ⟨_, rfl⟩ | .own _ _ _ => ⟨_, rfl⟩ | .iff _ _ _ => ⟨_, rfl⟩ | .two _ _ _ => ⟨_, rfl⟩ | .call _ _ _ => ⟨_, rfl⟩
theorem okTop_enc (d : Deed) : okTop (encT d) := .inr (.inr (top_enc d))
theorem isTp_enc (d : Deed) : isTp (encT d) = true := by obtain ⟨us, e⟩ := top_enc d; rw [e]; rfl
theorem parts_T {n : Nat} {w : Str} {ts : List T} (hw : w ≠ "call") (ho : ∀ t ∈ ts, okTop t) (hl : ts.length ≤ 1000) (hn : 2 ≤ n) : tv (csem n .f_parts_of) [.tup (.str w :: ts)] = .ok (.lst (ts.filter isTp)) := by
  obtain ⟨k, rfl⟩ : ∃ k, n = k + 2 := ⟨n - 2, by omega⟩
  refine cq_f_parts_of ?_ (by simp)
  unfold ct_f_parts_of
  refine t_run rfl (t_skip (by simp [hw]) (t_ret ?_))
  have := t_lc (τ := [some (.tup (.str w :: ts)), none]) (it := tiAny (tSl (tVar 0) (tPart (tC (.int 1))) tNoPart)) (g := hN 1) (c := tTest (tIsi "tuple" (tVar 1))) (e := tVar 1) (vs := [1]) (l := ts) (m := id) (k := isTp) (f := id)
    (ti_any (l := .tup ts) (by
      have z := cut_hi (ts := .str w :: ts) (k := 1)
      simp only [te_sl, te_part, te_C, te_noPart, RT.bind_ok, asI_int]
      rw [te_V (t := .tup (.str w :: ts)) rfl, RT.bind_ok, q_slT]
      exact congrArg (fun z => RT.ok (T.tup z)) z) (.inr (.inl rfl)) |>.trans (by rw [List.map_id])) (fun a ha => ⟨_, rfl, by
      have hk := kit_top (ho a ha)
      show ((tIsi "tuple" (tVar 1)) _).bind asB = _
      unfold tIsi
      simp only [id, List.set_cons_zero, List.set_cons_succ, twipe]
      rw [te_V (t := a) rfl, RT.bind_ok, hk]
      rfl, fun _ => rfl⟩) (by omega)
  rw [List.map_id] at this
  exact this
end DL

set_option Elab.async false
set_option linter.all false
set_option maxRecDepth 100000
set_option maxHeartbeats 1000000
namespace DL
open PySem
open KS (rise tLt ord_tup mem_rise Rising)
def lm (l : List Mk) : T := .lst (l.map unX)
theorem lm_add {l m : List Mk} (h : l.length + m.length ≤ 1000000) : qAdd (lm l) (lm m) = .ok (lm (l ++ m)) := by
  unfold lm
  rw [q_addL, if_pos (okB_big (by simpa using h)), List.map_append]
theorem sok_all : ∀ m ∈ allM, ∀ x ∈ m, sok x = true := by decide +kernel
theorem fine_mark {m : Mk} (h : m ∈ allM) (k : Nat) : FineK (k + 1) (unX m) := .tup (.all fun t ht => by
  obtain ⟨x, hx, rfl⟩ := List.mem_map.mp ht
  exact .str k (sok_all m h x hx))
theorem unX_inj {a b : Mk} (h : unX a = unX b) : a = b := by
  have := congrArg textsT h
  simp only [unX, textsT, fall_strX, Option.some.injEq] at this
  exact this
theorem rise_len {l : List Mk} (h : ∀ m ∈ l, m ∈ allM) : (rise tLt l).length ≤ 17 := by
  have := KS.nodup_len (rise tLt l) allM (KS.rising_nodup ord_tup (KS.rising_rise ord_tup l)) fun m hm => h m ((mem_rise ord_tup).mp hm)
  rwa [allM_len] at this
theorem flat_len {ls : List (List Mk)} (h : ∀ l ∈ ls, l.length ≤ 17) : ls.flatten.length ≤ 17 * ls.length := by
  induction ls with
  | nil => simp
  | cons l ls ih =>
    have h1 := h l List.mem_cons_self
    have h2 := ih fun z hz => h z (List.mem_cons_of_mem _ hz)
    simp only [List.flatten_cons, List.length_append, List.length_cons]
    omega
theorem found_loop {F : List T → RT T} {R : T} {mk : Deed → List Mk} : ∀ (ps : List Deed) (f : List Mk) (D W z4 z5 z6 : Option T), (∀ p ∈ ps, F [R, encT p] = .ok (lm (mk p)) ∧ (mk p).length ≤ 17) → f.length + 17 * ps.length ≤ 1000000 →
    ∃ z5', tForL (hN 5) (tsAsg (tBin qAdd (tVar 3) (tCall 2 F (tCons (tVar 0) (tCons (tVar 5) tNil)))) (hN 3)) (ps.map encT) [some R, D, W, some (lm f), z4, z5, z6] = .ok (.nx [some R, D, W, some (lm (f ++ (ps.map mk).flatten)), z4, z5', z6])
  | [], f, D, W, z4, z5, z6, _, _ => ⟨z5, by simp [tForL]⟩
  | p :: ps, f, D, W, z4, z5, z6, h, hb => by
    obtain ⟨h1, h2⟩ := h p List.mem_cons_self
    simp only [List.length_cons] at hb
    obtain ⟨z5', e⟩ := found_loop (F := F) (R := R) (mk := mk) ps (f ++ mk p) D W z4 (some (encT p)) z6 (fun q hq => h q (List.mem_cons_of_mem _ hq)) (by simp; omega)
    refine ⟨z5', ?_⟩
    have step : tsAsg (tBin qAdd (tVar 3) (tCall 2 F (tCons (tVar 0) (tCons (tVar 5) tNil)))) (hN 3) [some R, D, W, some (lm f), z4, some (encT p), z6] = .ok (.nx [some R, D, W, some (lm (f ++ mk p)), z4, some (encT p), z6]) := by
      refine t_asg1 (t := lm (f ++ mk p)) ?_ rfl
      simp [h1, lm_add (l := f) (m := mk p) (by omega)]
    rw [List.map_cons]
    unfold tForL
    simp only [te_hN, List.set_cons_succ, List.set_cons_zero, step, tsN]
    rw [e]
    simp
section
variable {rs : List Rule} {R : MR}
theorem words : ("number" : Str) ≠ "call" ∧ ("name" : Str) ≠ "call" ∧ ("do" : Str) ≠ "call" ∧ ("ask" : Str) ≠ "call" ∧ ("read" : Str) ≠ "call" ∧ ("write" : Str) ≠ "call" ∧ ("say" : Str) ≠ "call" ∧ ("let" : Str) ≠ "call" ∧ ("if" : Str) ≠ "call" ∧ ∀ w : Two, w.w ≠ "call" := by
  refine ⟨by decide +kernel, by decide +kernel, by decide +kernel, by decide +kernel, by decide +kernel, by decide +kernel, by decide +kernel, by decide +kernel, by decide +kernel, fun w => by cases w <;> decide +kernel⟩
theorem wordsO : ("number" : Str) ≠ "own" ∧ ("name" : Str) ≠ "own" ∧ ("do" : Str) ≠ "own" ∧ ("ask" : Str) ≠ "own" ∧ ("read" : Str) ≠ "own" ∧ ("write" : Str) ≠ "own" ∧ ("say" : Str) ≠ "own" ∧ ("let" : Str) ≠ "own" ∧ ("if" : Str) ≠ "own" ∧ ∀ w : Two, w.w ≠ "own" := by
  refine ⟨by decide +kernel, by decide +kernel, by decide +kernel, by decide +kernel, by decide +kernel, by decide +kernel, by decide +kernel, by decide +kernel, by decide +kernel, fun w => by cases w <;> decide +kernel⟩
theorem tail_T {n : Nat} {w : Str} {ts : List T} {f : List Mk} {ps : List Deed} {mk : Deed → List Mk} {A B : TSDen} {z4 : Option T} (hw : w ≠ "call") (hw2 : w ≠ "own") (ho : ∀ t ∈ ts, okTop t) (hl : ts.length ≤ 1000) (hp : ts.filter isTp = ps.map encT) (hn : 2 ≤ n)
    (hm : ∀ p ∈ ps, tv (csem n .f_marks_of) [encRsT rs, encT p] = .ok (lm (mk p)) ∧ (mk p).length ≤ 17) (hb : f.length + 17 * ps.length ≤ 1000000) (hall : ∀ m ∈ f ++ (ps.map mk).flatten, m ∈ allM) :
    (tsSeq (tsIf (tTest (tBin qEq (tVar 2) (tC (.str "call")))) A tsNil)
    (tsSeq (tsIf (tTest (tBin qEq (tVar 2) (tC (.str "own")))) B tsNil)
    (tsSeq (tsFor (tiAny (tCall 1 (tv (csem n .f_parts_of)) (tCons (tVar 1) tNil))) (hN 5) (tsAsg (tBin qAdd (tVar 3) (tCall 2 (tv (csem n .f_marks_of)) (tCons (tVar 0) (tCons (tVar 5) tNil)))) (hN 3)))
    (tsRet (tCall 1 (tv (csem n .f_once)) (tCons (tVar 3) tNil)))))) [some (encRsT rs), some (.tup (.str w :: ts)), some (.str w), some (lm f), z4, none, none] = .ok (.rt (lm (rise tLt (f ++ (ps.map mk).flatten)))) := by
  refine t_skip (by simp [hw]) (t_skip (by simp [hw2]) ?_)
  obtain ⟨z5, e⟩ := found_loop (F := tv (csem n .f_marks_of)) (R := encRsT rs) (mk := mk) ps f (some (.tup (.str w :: ts))) (some (.str w)) z4 none none hm hb
  have hi : tiAny (tCall 1 (tv (csem n .f_parts_of)) (tCons (tVar 1) tNil)) [some (encRsT rs), some (.tup (.str w :: ts)), some (.str w), some (lm f), z4, none, none] = .ok (ps.map encT) := by
    refine ti_any (l := .lst (ps.map encT)) ?_ (.inl rfl)
    have := parts_T (n := n) hw ho hl hn
    rw [hp] at this
    simp [this]
  refine t_seq (t_for hi e) (t_ret ?_)
  have := once_T (n := n) hall hn
  simp only [te_call, te_cons, te_nil]
  rw [te_V (t := lm (f ++ (ps.map mk).flatten)) rfl]
  exact this
end
end DL

set_option Elab.async false
set_option linter.all false
set_option maxRecDepth 100000
set_option maxHeartbeats 1000000
namespace DL
open PySem
open KS (rise tLt ord_tup mem_rise Rising)
theorem reown_T {i : Nat} {p : TDen} {τ : TEnv} {f g : List Mk} (h1 : τ[i]? = some (some (lm f))) (h2 : p τ = .ok (lm g)) (hb : f.length + g.length ≤ 1000000) : tsReown i p τ = .ok (.nx (τ.set i (some (lm (f ++ g))))) := by
  unfold tsReown
  rw [h1]
  unfold lm at h2 ⊢
  have : (f.map unX ++ g.map unX).length ≤ big := by simp [big]; omega
  simp only [h2, tsE, if_pos this, List.map_append]
theorem app_T {i : Nat} {p : TDen} {τ : TEnv} {f : List Mk} {m : Mk} (h1 : τ[i]? = some (some (lm f))) (h2 : p τ = .ok (unX m)) (hb : f.length < 1000000) : tsApp i p τ = .ok (.nx (τ.set i (some (lm (f ++ [m]))))) := by
  unfold tsApp
  rw [h1]
  unfold lm
  have : (f.map unX).length < big := by simp [big]; omega
  simp only [h2, tsE, if_pos this, List.map_append, List.map_cons, List.map_nil]
theorem args_loop {F : List T → RT T} {R : T} {mk : Deed → List Mk} : ∀ (ps : List Deed) (f : List Mk) (D z2 z3 z4 z6 z7 : Option T), (∀ p ∈ ps, F [R, encT p] = .ok (lm (mk p)) ∧ (mk p).length ≤ 17) → f.length + 17 * ps.length ≤ 1000000 →
    ∃ z6', tForL (hN 6) (tsReown 5 (tCall 2 F (tCons (tVar 0) (tCons (tVar 6) tNil)))) (ps.map encT) [some R, D, z2, z3, z4, some (lm f), z6, z7] = .ok (.nx [some R, D, z2, z3, z4, some (lm (f ++ (ps.map mk).flatten)), z6', z7])
  | [], f, D, z2, z3, z4, z6, z7, _, _ => ⟨z6, by simp [tForL]⟩
  | p :: ps, f, D, z2, z3, z4, z6, z7, h, hb => by
    obtain ⟨h1, h2⟩ := h p List.mem_cons_self
    simp only [List.length_cons] at hb
    obtain ⟨z6', e⟩ := args_loop (F := F) (R := R) (mk := mk) ps (f ++ mk p) D z2 z3 z4 (some (encT p)) z7 (fun q hq => h q (List.mem_cons_of_mem _ hq)) (by simp; omega)
    refine ⟨z6', ?_⟩
    have step := reown_T (i := 5) (p := tCall 2 F (tCons (tVar 0) (tCons (tVar 6) tNil))) (τ := [some R, D, z2, z3, z4, some (lm f), some (encT p), z7]) (f := f) (g := mk p) rfl (by simp [h1]) (by omega)
    rw [List.map_cons]
    unfold tForL
    simp only [te_hN, List.set_cons_succ, List.set_cons_zero] at step ⊢
    simp only [step, tsN]
    rw [e]
    simp
theorem L2atI {α : Type} {l : List α} {j : Nat} (h : j < l.length) : L2.atI l (j : Int) = l[j]? := by
  rw [atI_in (by omega) (by omega), Int.toNat_natCast]
theorem head_M {w : Str} {r : List Str} : qGet (unX (w :: r)) (.int 0) = .ok (.str w) := by simp [unX]
theorem second_M {w x : Str} {r : List Str} : qGet (unX (w :: x :: r)) (.int 1) = .ok (.str x) := by simp [unX]
theorem marks_loop {F : List T → RT T} {R D : T} {hs : List Str} {hd : List Deed} {mk : Deed → List Mk} (hF : ∀ p ∈ hd, F [R, encT p] = .ok (lm (mk p)) ∧ (mk p).length ≤ 17) (hD : qGet D (.int 3) = .ok (.tup (hd.map encT))) (hl : hs.length = hd.length) :
    ∀ (ms : List Mk) (f : List Mk) (z2 z4 z6 z7 : Option T), (∀ m ∈ ms, m = mS ∨ m = mA ∨ (∃ x, m = mR x ∨ m = mW x) ∨ ∃ x, x ∈ hs ∧ m = mD x) → f.length + 17 * ms.length ≤ 1000000 →
    ∃ z7', tForL (hN 7) (tsIf (tTest (tBin qEq (tBin qGet (tVar 7) (tC (.int 0))) (tC (.str "do")))) (tsReown 5 (tCall 2 F (tCons (tVar 0) (tCons (tBin qGet (tBin qGet (tVar 1) (tC (.int 3))) (tIdxT (tVar 3) (tBin qGet (tVar 7) (tC (.int 1))))) tNil)))) (tsApp 5 (tVar 7))) (ms.map unX)
      [some R, some D, z2, some (tstrs hs), z4, some (lm f), z6, z7] = .ok (.nx [some R, some D, z2, some (tstrs hs), z4, some (lm (f ++ ms.flatMap (atCall hs (hd.map mk)))), z6, z7'])
  | [], f, z2, z4, z6, z7, _, _ => ⟨z7, by simp [tForL]⟩
  | m :: ms, f, z2, z4, z6, z7, h, hb => by
    simp only [List.length_cons] at hb
    have plain : atCall hs (hd.map mk) m = [m] → (∃ w r, m = w :: r ∧ w ≠ "do") → ∃ g, atCall hs (hd.map mk) m = g ∧ g.length ≤ 17 ∧
        tsIf (tTest (tBin qEq (tBin qGet (tVar 7) (tC (.int 0))) (tC (.str "do")))) (tsReown 5 (tCall 2 F (tCons (tVar 0) (tCons (tBin qGet (tBin qGet (tVar 1) (tC (.int 3))) (tIdxT (tVar 3) (tBin qGet (tVar 7) (tC (.int 1))))) tNil)))) (tsApp 5 (tVar 7))
          [some R, some D, z2, some (tstrs hs), z4, some (lm f), z6, some (unX m)] = .ok (.nx [some R, some D, z2, some (tstrs hs), z4, some (lm (f ++ g)), z6, some (unX m)]) := by
      rintro e ⟨w, r, rfl, hw⟩
      refine ⟨[w :: r], e, by simp, t_if (b := false) ?_ ?_⟩
      · simp only [te_test, te_bin, te_C]
        rw [te_V (t := unX (w :: r)) rfl]
        simp [head_M, hw]
      · rw [if_neg Bool.false_ne_true]
        exact app_T (i := 5) (f := f) (m := w :: r) rfl rfl (by omega)
    have step : ∃ g, atCall hs (hd.map mk) m = g ∧ g.length ≤ 17 ∧
        tsIf (tTest (tBin qEq (tBin qGet (tVar 7) (tC (.int 0))) (tC (.str "do")))) (tsReown 5 (tCall 2 F (tCons (tVar 0) (tCons (tBin qGet (tBin qGet (tVar 1) (tC (.int 3))) (tIdxT (tVar 3) (tBin qGet (tVar 7) (tC (.int 1))))) tNil)))) (tsApp 5 (tVar 7))
          [some R, some D, z2, some (tstrs hs), z4, some (lm f), z6, some (unX m)] = .ok (.nx [some R, some D, z2, some (tstrs hs), z4, some (lm (f ++ g)), z6, some (unX m)]) := by
      rcases h m List.mem_cons_self with rfl | rfl | ⟨x, rfl | rfl⟩ | ⟨x, hx, rfl⟩
      · exact plain (at_say _ _) ⟨_, _, rfl, by decide +kernel⟩
      · exact plain (at_ask _ _) ⟨_, _, rfl, by decide +kernel⟩
      · exact plain (at_rd _ _ _) ⟨_, _, rfl, by decide +kernel⟩
      · exact plain (at_wr _ _ _) ⟨_, _, rfl, by decide +kernel⟩
      · obtain ⟨j, hj, lj⟩ := firstAt_in hx
        have lj2 : j < hd.length := by omega
        obtain ⟨h1, h2⟩ := hF hd[j] (List.getElem_mem lj2)
        have e1 : (hd.map mk).getD j [] = mk hd[j] := by rw [List.getD_eq_getElem?_getD, List.getElem?_map, List.getElem?_eq_getElem lj2]; rfl
        refine ⟨mk hd[j], by rw [at_do hj, e1], h2, t_if (b := true) ?_ ?_⟩
        · simp only [te_test, te_bin, te_C]
          rw [te_V (t := unX (mD x)) rfl]
          simp [mD, head_M]
        · rw [if_pos rfl]
          refine reown_T (i := 5) (f := f) (g := mk hd[j]) rfl ?_ (by omega)
          have i1 : tIdxT (tVar 3) (tBin qGet (tVar 7) (tC (.int 1))) [some R, some D, z2, some (tstrs hs), z4, some (lm f), z6, some (unX (mD x))] = .ok (.int (j : Nat)) := by
            unfold tIdxT
            rw [te_V (t := tstrs hs) rfl, RT.bind_ok]
            have : textsT (tstrs hs) = some hs := fall_strX hs
            simp only [this, te_bin, te_C]
            rw [te_V (t := unX (mD x)) rfl]
            simp only [RT.bind_ok, second_M, mD, hj]
          have i2 : qGet (.tup (hd.map encT)) (.int (j : Nat)) = .ok (encT hd[j]) := by
            rw [q_getT, L2atI (l := hd.map encT) (j := j) (by simpa using lj2)]
            simp [lj2]
          simp only [te_call, te_cons, te_nil, te_bin, te_C]
          rw [te_V (t := R) rfl, te_V (t := D) rfl, RT.bind_ok, RT.bind_ok, RT.bind_ok, hD, RT.bind_ok, i1, RT.bind_ok, i2]
          exact h1
    obtain ⟨g, eg, lg, es⟩ := step
    obtain ⟨z7', e⟩ := marks_loop hF hD hl ms (f ++ g) z2 z4 z6 (some (unX m)) (fun q hq => h q (List.mem_cons_of_mem _ hq)) (by simp; omega)
    refine ⟨z7', ?_⟩
    rw [List.map_cons]
    unfold tForL
    simp only [te_hN, List.set_cons_succ, List.set_cons_zero, es, tsN]
    rw [e, List.flatMap_cons, eg, List.append_assoc]
end DL

set_option Elab.async false
set_option linter.all false
set_option maxRecDepth 100000
set_option maxHeartbeats 1000000
namespace DL
open PySem
open KS (rise tLt ord_tup mem_rise Rising)
theorem mk_rising (R : MR) : ∀ d : Deed, Rising tLt (mkD R d)
  | .num _ => .nil | .nam _ => .nil
  | .dod _ => List.pairwise_singleton _ _ | .ask => List.pairwise_singleton _ _ | .rd _ => List.pairwise_singleton _ _
  | .wr _ _ => by simp only [mkD]; exact KS.rising_rise ord_tup _
  | .say _ => by simp only [mkD]; exact KS.rising_rise ord_tup _
  | .lt _ _ _ => by simp only [mkD]; exact KS.rising_rise ord_tup _
  | .own _ _ _ => by simp only [mkD]; exact KS.rising_rise ord_tup _
  | .iff _ _ _ => by simp only [mkD]; exact KS.rising_rise ord_tup _
  | .two _ _ _ => by simp only [mkD]; exact KS.rising_rise ord_tup _
  | .call _ _ _ => by simp only [mkD]; exact KS.rising_rise ord_tup _
theorem rise_same {l : List Mk} (h : Rising tLt l) : rise tLt l = l := KS.rising_one ord_tup (KS.rising_rise ord_tup l) h fun _ => mem_rise ord_tup
theorem okMR_of : ∀ rs : List Rule, okRs rs → okMR rs (rmk rs) := snoc_ind (fun _ i r h => by simp at h) fun l a ih ho i r h => by
  have hol : okRs l := fun j q hq => by
    have hj := (List.getElem?_eq_some_iff.mp hq).1
    have := ho j q (by rw [List.getElem?_append_left hj]; exact hq)
    rwa [List.take_append_of_le_length (by omega)] at this
  have il := ih hol
  by_cases hi : i < l.length
  · rw [List.getElem?_append_left hi] at h
    rw [rmk_snoc, ruleAt_app (by rw [rmk_len]; exact hi)]
    exact il i r h
  · have e : i = l.length := by
      have := (List.getElem?_eq_some_iff.mp h).1
      simp at this
      omega
    subst e
    have hb := ho l.length r h
    rw [List.getElem?_append_right (Nat.le_refl _), Nat.sub_self] at h
    have e0 : a = r := Option.some.inj h
    subst e0
    rw [List.take_append_of_le_length (Nat.le_refl _), List.take_length] at hb
    rw [rmk_snoc]
    have e1 : ruleAt (rmk l ++ [(a.hs, mkD (rmk l) a.b)]) l.length = (a.hs, mkD (rmk l) a.b) := by
      unfold ruleAt
      rw [List.getD_eq_getElem?_getD, List.getElem?_append_right (by rw [rmk_len]; exact Nat.le_refl _), rmk_len, Nat.sub_self]
      rfl
    rw [e1]
    exact ⟨rfl, mk_ok il (fun j q hq => ⟨(hol j q hq).n, (hol j q hq).h⟩) (dep a.b) a.b (Nat.le_refl _) hb.b⟩
section
variable {rs : List Rule} (ho : okRs rs)
include ho
theorem mk_in {d : Deed} {K : List Str} (hd : okD (szs rs) K d) : ∀ m ∈ mkD (rmk rs) d, m ∈ allM := fun m hm =>
  okM_all (mk_ok (okMR_of rs ho) (fun i r h => ⟨(ho i r h).n, (ho i r h).h⟩) (dep d) d (Nat.le_refl _) hd m hm)
theorem mk_len {d : Deed} {K : List Str} (hd : okD (szs rs) K d) : (mkD (rmk rs) d).length ≤ 17 := by
  have := rise_len (mk_in ho hd)
  rwa [rise_same (mk_rising _ d)] at this
end
theorem okD_take {rs : List Rule} {j : Nat} {K : List Str} {d : Deed} (h : okD (szs (rs.take j)) K d) : okD (szs rs) K d := okD_mono (fun i p hp => by
  unfold szs at hp ⊢
  rw [List.getElem?_map] at hp ⊢
  obtain ⟨r, hr, e⟩ := Option.map_eq_some_iff.mp hp
  rw [List.getElem?_take] at hr
  split at hr
  · rw [hr]; exact congrArg some e
  · cases hr) d (fun _ h => h) h
theorem okTop_str (x : Str) : okTop (.str x) := .inl ⟨x, rfl⟩
theorem isTp_str (x : Str) : isTp (.str x) = false := rfl
theorem dep_in {d : Deed} : ∀ {ds : List Deed}, d ∈ ds → dep d ≤ deps ds
  | e :: ds, h => by
    simp only [deps]
    rcases List.mem_cons.mp h with rfl | h
    · omega
    · have := dep_in h; omega
abbrev cRWD : TDenB := tTest (tBin qIn (tVar 2) (tTup (tCons (tC (.str "read")) (tCons (tC (.str "write")) (tCons (tC (.str "do")) tNil)))))
abbrev cSA : TDenB := tTest (tBin qIn (tVar 2) (tTup (tCons (tC (.str "say")) (tCons (tC (.str "ask")) tNil))))
abbrev hdT (rest : TSDen) : TSDen := tsSeq (tsAsg (tBin qGet (tVar 1) (tC (.int 0))) (hN 2))
    (tsSeq (tsAsg (tLst tNil) (hN 3))
    (tsSeq (tsIf cRWD (tsAsg (tLst (tCons (tTup (tCons (tVar 2) (tCons (tBin qGet (tVar 1) (tC (.int 1))) tNil))) tNil)) (hN 3)) tsNil)
    (tsSeq (tsIf cSA (tsAsg (tLst (tCons (tTup (tCons (tVar 2) tNil)) tNil)) (hN 3)) tsNil) rest)))
section
variable {A D : T} {w x : Str} {ts : List T} {rest : TSDen} {r : RT TFl}
theorem hd0 (h1 : ∀ z : T, cRWD [some A, some z, some (.str w), some (lm []), none, none, none] = .ok false) (h2 : ∀ z : T, cSA [some A, some z, some (.str w), some (lm []), none, none, none] = .ok false)
    (k : rest [some A, some (.tup (.str w :: ts)), some (.str w), some (lm []), none, none, none] = r) : hdT rest [some A, some (.tup (.str w :: ts)), none, none, none, none, none] = r :=
  t_asg (t := .str w) (by simp) rfl (t_asg (t := lm []) rfl rfl (t_skip (h1 _) (t_skip (h2 _) k)))
theorem hd1 (h1 : ∀ z : T, cRWD [some A, some z, some (.str w), some (lm []), none, none, none] = .ok true) (h2 : ∀ z y : T, cSA [some A, some z, some (.str w), some y, none, none, none] = .ok false)
    (k : rest [some A, some (.tup (.str w :: .str x :: ts)), some (.str w), some (lm [[w, x]]), none, none, none] = r) : hdT rest [some A, some (.tup (.str w :: .str x :: ts)), none, none, none, none, none] = r := by
  refine t_asg (t := .str w) (by simp) rfl (t_asg (t := lm []) rfl rfl (t_seq (τ' := [some A, some (.tup (.str w :: .str x :: ts)), some (.str w), some (lm [[w, x]]), none, none, none]) (t_if (h1 _) ?_) (t_skip (h2 _ _) k)))
  rw [if_pos rfl]
  exact t_asg1 (t := lm [[w, x]]) (by simp [lm, unX]) rfl
theorem hd2 (h1 : ∀ z : T, cRWD [some A, some z, some (.str w), some (lm []), none, none, none] = .ok false) (h2 : ∀ z : T, cSA [some A, some z, some (.str w), some (lm []), none, none, none] = .ok true)
    (k : rest [some A, some (.tup (.str w :: ts)), some (.str w), some (lm [[w]]), none, none, none] = r) : hdT rest [some A, some (.tup (.str w :: ts)), none, none, none, none, none] = r := by
  refine t_asg (t := .str w) (by simp) rfl (t_asg (t := lm []) rfl rfl (t_skip (h1 _) (t_seq (τ' := [some A, some (.tup (.str w :: ts)), some (.str w), some (lm [[w]]), none, none, none]) (t_if (h2 _) ?_) k)))
  rw [if_pos rfl]
  exact t_asg1 (t := lm [[w]]) (by simp [lm, unX]) rfl
end
section
variable {rs : List Rule}
theorem call_T {R : MR} {n i : Nat} {r : Rule} {ps hd : List Deed} (hr : rs[i]? = some r) (h1000 : rs.length ≤ 1000) (hk3 : ∀ x ∈ r.hs, kd x = 3) (hk1 : ∀ x ∈ r.ns, kd x = 1) (hl : r.hs.length = hd.length) (l1 : ps.length ≤ 100) (l2 : hd.length ≤ 100) (hn : 4 ≤ n)
    (hps : ∀ p ∈ ps, tv (csem (n - 1) .f_marks_of) [encRsT rs, encT p] = .ok (lm (mkD R p)) ∧ (mkD R p).length ≤ 17) (hhd : ∀ p ∈ hd, tv (csem (n - 1) .f_marks_of) [encRsT rs, encT p] = .ok (lm (mkD R p)) ∧ (mkD R p).length ≤ 17)
    (hb : tv (csem (n - 1) .f_marks_of) [encRsT rs, encT r.b] = .ok (lm (ruleAt R i).2)) (hb2 : (ruleAt R i).2.length ≤ 17) (hR : (ruleAt R i).1 = r.hs) (hM : ∀ m ∈ (ruleAt R i).2, okM (r.ns ++ r.hs) m)
    (hin : ∀ m ∈ mkD R (.call i ps hd), m ∈ allM) : tv (csem n .f_call_marks) [encRsT rs, encT (.call i ps hd)] = .ok (lm (mkD R (.call i ps hd))) := by
  obtain ⟨m, rfl⟩ : ∃ m, n = m + 2 := ⟨n - 2, by omega⟩
  rw [show m + 2 - 1 = m + 1 by omega] at hps hhd hb
  refine cq_f_call_marks ?_ (by simp [lm])
  unfold ct_f_call_marks
  have e0 : encT (.call i ps hd) = .tup [.str "call", .int i, .tup (ps.map encT), .tup (hd.map encT)] := by rw [encT, encTs_map, encTs_map]
  have li := (List.getElem?_eq_some_iff.mp hr).1
  have g0 : qGet (encRsT rs) (.int (i : Nat)) = .ok (encRT r) := by
    unfold encRsT
    rw [q_getT, L2atI (by simpa using li), List.getElem?_map, hr]
    rfl
  rw [e0]
  refine t_run rfl (t_asg (t := encRT r) (τ' := [some (encRsT rs), some (.tup [.str "call", .int i, .tup (ps.map encT), .tup (hd.map encT)]), some (tstrs r.ns), some (tstrs r.hs), some (encT r.b), none, none, none]) ?_ (by simp [encRT]) ?_)
  · simp only [te_bin, te_C]
    rw [te_V (t := encRsT rs) rfl, te_V (t := .tup [.str "call", .int i, .tup (ps.map encT), .tup (hd.map encT)]) rfl]
    simp only [RT.bind_ok, q_getT, atI_1]
    exact g0
  refine t_own (t := lm []) rfl (by simp) ?_
  simp only [List.set_cons_succ, List.set_cons_zero]
  obtain ⟨z6, e1⟩ := args_loop (F := tv (csem (m + 1) .f_marks_of)) (R := encRsT rs) (mk := mkD R) ps [] (some (.tup [.str "call", .int i, .tup (ps.map encT), .tup (hd.map encT)])) (some (tstrs r.ns)) (some (tstrs r.hs)) (some (encT r.b)) none none hps (by simp; omega)
  have i1 : tiAny (tBin qGet (tVar 1) (tC (.int 2))) [some (encRsT rs), some (.tup [.str "call", .int i, .tup (ps.map encT), .tup (hd.map encT)]), some (tstrs r.ns), some (tstrs r.hs), some (encT r.b), some (lm []), none, none] = .ok (ps.map encT) :=
    ti_any (l := .tup (ps.map encT)) (by simp) (.inr (.inl rfl))
  refine t_seq (t_for i1 e1) ?_
  have fl := flat_len (ls := ps.map (mkD R)) fun l hl => by
    obtain ⟨p, hp, rfl⟩ := List.mem_map.mp hl
    exact (hps p hp).2
  rw [List.length_map] at fl
  obtain ⟨z7, e2⟩ := marks_loop (F := tv (csem (m + 1) .f_marks_of)) (R := encRsT rs) (D := .tup [.str "call", .int i, .tup (ps.map encT), .tup (hd.map encT)]) (hs := r.hs) (hd := hd) (mk := mkD R) hhd (by simp) hl (ruleAt R i).2 ([] ++ (ps.map (mkD R)).flatten) (some (tstrs r.ns)) (some (encT r.b)) z6 none (fun q hq => by
    rcases hM q hq with h | h | ⟨x, _, h⟩ | ⟨x, hx, kx, h⟩
    · exact .inl h
    · exact .inr (.inl h)
    · exact .inr (.inr (.inl ⟨x, h⟩))
    · refine .inr (.inr (.inr ⟨x, ?_, h⟩))
      rcases List.mem_append.mp hx with hx | hx
      · have := hk1 x hx; omega
      · exact hx) (by rw [List.nil_append]; omega)
  have i2 : tiAny (tCall 2 (tv (csem (m + 1) .f_marks_of)) (tCons (tVar 0) (tCons (tVar 4) tNil))) [some (encRsT rs), some (.tup [.str "call", .int i, .tup (ps.map encT), .tup (hd.map encT)]), some (tstrs r.ns), some (tstrs r.hs), some (encT r.b), some (lm ([] ++ (ps.map (mkD R)).flatten)), z6, none] = .ok ((ruleAt R i).2.map unX) :=
    ti_any (l := lm (ruleAt R i).2) (by simp [hb]) (.inl rfl)
  refine t_seq (t_for i2 e2) (t_ret ?_)
  have em : mkD R (.call i ps hd) = rise tLt ([] ++ (ps.map (mkD R)).flatten ++ (ruleAt R i).2.flatMap (atCall r.hs (hd.map (mkD R)))) := by
    rw [mkD, mkDs_map, mkDs_map, hR, List.nil_append]
  rw [em] at hin ⊢
  have := once_T (n := m + 1) (l := [] ++ (ps.map (mkD R)).flatten ++ (ruleAt R i).2.flatMap (atCall r.hs (hd.map (mkD R)))) (fun q hq => hin q ((mem_rise ord_tup).mpr hq)) (by omega)
  simp only [te_call, te_cons, te_nil]
  rw [te_V (t := lm ([] ++ (ps.map (mkD R)).flatten ++ (ruleAt R i).2.flatMap (atCall r.hs (hd.map (mkD R))))) rfl]
  exact this
end
section
variable {rs : List Rule} {j B : Nat}
theorem deed_marks (ho : okRs rs) (h1000 : rs.length ≤ 1000) (hsz : ∀ r ∈ rs, r.ns.length ≤ 100 ∧ r.hs.length ≤ 100) (hB : ∀ (i : Nat) (r : Rule), rs[i]? = some r → i < j → ∀ n, B ≤ n → tv (csem n .f_marks_of) [encRsT rs, encT r.b] = .ok (lm (mkD (rmk rs) r.b))) :
    ∀ (k : Nat) (d : Deed) {K : List Str} (n : Nat), dep d ≤ k → okD (szs (rs.take j)) K d → B + 3 * k + 6 ≤ n → tv (csem n .f_marks_of) [encRsT rs, encT d] = .ok (lm (mkD (rmk rs) d)) := by
  intro k
  induction k with
  | zero =>
    intro d K n hd ho2 hn
    have hin := mk_in ho (okD_take ho2)
    obtain ⟨m, rfl⟩ : ∃ m, n = m + 2 := ⟨n - 2, by omega⟩
    refine cq_f_marks_of ?_ (by simp)
    unfold ct_f_marks_of
    refine t_run rfl ?_
    cases d <;> simp only [dep] at hd <;> try omega
    · exact hd0 (fun _ => rfl) (fun _ => rfl) (tail_T (ps := []) (mk := mkD (rmk rs)) words.1 wordsO.1 (by simp [okTop]) (by simp) (by simp [isTp]) (by omega) (by simp) (by simp) (by simp))
    · exact hd0 (fun _ => rfl) (fun _ => rfl) (tail_T (ps := []) (mk := mkD (rmk rs)) words.2.1 wordsO.2.1 (by simp [okTop]) (by simp) (by simp [isTp]) (by omega) (by simp) (by simp) (by simp))
    · exact hd1 (fun _ => rfl) (fun _ _ => rfl) (tail_T (ps := []) (mk := mkD (rmk rs)) words.2.2.1 wordsO.2.2.1 (by simp [okTop]) (by simp) (by simp [isTp]) (by omega) (by simp) (by simp) (by simpa [mkD, mR, mW, mD] using hin))
    · exact hd2 (fun _ => rfl) (fun _ => rfl) (tail_T (ps := []) (mk := mkD (rmk rs)) words.2.2.2.1 wordsO.2.2.2.1 (by simp [okTop]) (by simp) (by simp [isTp]) (by omega) (by simp) (by simp) (by simpa [mkD, mA] using hin))
    · exact hd1 (fun _ => rfl) (fun _ _ => rfl) (tail_T (ps := []) (mk := mkD (rmk rs)) words.2.2.2.2.1 wordsO.2.2.2.2.1 (by simp [okTop]) (by simp) (by simp [isTp]) (by omega) (by simp) (by simp) (by simpa [mkD, mR, mW, mD] using hin))
  | succ k ih =>
    intro d K n hd ho2 hn
    have hin := mk_in ho (okD_take ho2)
    -- a part of the deed
    have part : ∀ (q : Deed) {K' : List Str} (n' : Nat), dep q ≤ k → okD (szs (rs.take j)) K' q → B + 3 * k + 6 ≤ n' → tv (csem n' .f_marks_of) [encRsT rs, encT q] = .ok (lm (mkD (rmk rs) q)) ∧ (mkD (rmk rs) q).length ≤ 17 :=
      fun q K' n' h1 h2 h3 => ⟨ih q n' h1 h2 h3, mk_len ho (okD_take h2)⟩
    obtain ⟨m, rfl⟩ : ∃ m, n = m + 2 := ⟨n - 2, by omega⟩
    have all : ∀ {l : List Mk}, mkD (rmk rs) d = rise tLt l → ∀ q ∈ l, q ∈ allM := fun e q hq => hin q (by rw [e]; exact (mem_rise ord_tup).mpr hq)
    have body : ∀ {u : TSDen}, u = ct_f_marks_of (fun g => tv (csem (m + 1) g)) (ov (csem (m + 1))) (ov (csem m)) → u [some (encRsT rs), some (encT d), none, none, none, none, none] = .ok (.rt (lm (mkD (rmk rs) d))) → tv (csem (m + 2) .f_marks_of) [encRsT rs, encT d] = .ok (lm (mkD (rmk rs) d)) := by
      rintro u rfl h
      exact cq_f_marks_of (t_run rfl h) (by simp)
    cases d with
    | num i => exact ih _ _ (by simp [dep]) ho2 (by omega)
    | nam x => exact ih _ _ (by simp [dep]) ho2 (by omega)
    | dod x => exact ih _ _ (by simp [dep]) ho2 (by omega)
    | ask => exact ih _ _ (by simp [dep]) ho2 (by omega)
    | rd x => exact ih _ _ (by simp [dep]) ho2 (by omega)
    | wr x a =>
      simp only [dep] at hd
      simp only [okD] at ho2
      have e : mkD (rmk rs) (.wr x a) = rise tLt ([mW x] ++ ([a].map (mkD (rmk rs))).flatten) := by simp [mkD]
      refine body (by unfold ct_f_marks_of; rfl) ?_
      rw [e]
      exact hd1 (fun _ => rfl) (fun _ _ => rfl) (tail_T (f := [mW x]) (ps := [a]) (mk := mkD (rmk rs)) words.2.2.2.2.2.1 wordsO.2.2.2.2.2.1 (by simp [okTop_enc, okTop_str]) (by simp) (by simp [isTp_enc, isTp_str]) (by omega) (by
        intro p hp
        rw [List.mem_singleton.mp hp]
        exact part a _ (by omega) ho2.2 (by omega)) (by simp) (all e))
    | say a =>
      simp only [dep] at hd
      simp only [okD] at ho2
      have e : mkD (rmk rs) (.say a) = rise tLt ([mS] ++ ([a].map (mkD (rmk rs))).flatten) := by simp [mkD]
      refine body (by unfold ct_f_marks_of; rfl) ?_
      rw [e]
      exact hd2 (fun _ => rfl) (fun _ => rfl) (tail_T (f := [mS]) (ps := [a]) (mk := mkD (rmk rs)) words.2.2.2.2.2.2.1 wordsO.2.2.2.2.2.2.1 (by simp [okTop_enc, okTop_str]) (by simp) (by simp [isTp_enc, isTp_str]) (by omega) (by
        intro p hp
        rw [List.mem_singleton.mp hp]
        exact part a _ (by omega) ho2 (by omega)) (by simp) (all e))
    | lt x a b =>
      simp only [dep] at hd
      simp only [okD] at ho2
      have e : mkD (rmk rs) (.lt x a b) = rise tLt ([] ++ ([a, b].map (mkD (rmk rs))).flatten) := by simp [mkD]
      refine body (by unfold ct_f_marks_of; rfl) ?_
      rw [e]
      refine hd0 (fun _ => rfl) (fun _ => rfl) (tail_T (f := []) (ps := [a, b]) (mk := mkD (rmk rs)) words.2.2.2.2.2.2.2.1 wordsO.2.2.2.2.2.2.2.1 (by simp [okTop_enc, okTop_str]) (by simp) (by simp [isTp_enc, isTp_str]) (by omega) (by
        intro p hp
        simp only [List.mem_cons, List.not_mem_nil, or_false] at hp
        rcases hp with rfl | rfl
        · exact part _ _ (by omega) ho2.2.1 (by omega)
        · exact part _ _ (by omega) ho2.2.2 (by omega)) (by simp) (all e))
    | iff a b c =>
      simp only [dep] at hd
      simp only [okD] at ho2
      have e : mkD (rmk rs) (.iff a b c) = rise tLt ([] ++ ([a, b, c].map (mkD (rmk rs))).flatten) := by simp [mkD]
      refine body (by unfold ct_f_marks_of; rfl) ?_
      rw [e]
      refine hd0 (fun _ => rfl) (fun _ => rfl) (tail_T (f := []) (ps := [a, b, c]) (mk := mkD (rmk rs)) words.2.2.2.2.2.2.2.2.1 wordsO.2.2.2.2.2.2.2.2.1 (by simp [okTop_enc, okTop_str]) (by simp) (by simp [isTp_enc, isTp_str]) (by omega) (by
        intro p hp
        simp only [List.mem_cons, List.not_mem_nil, or_false] at hp
        rcases hp with rfl | rfl | rfl
        · exact part _ _ (by omega) ho2.1 (by omega)
        · exact part _ _ (by omega) ho2.2.1 (by omega)
        · exact part _ _ (by omega) ho2.2.2 (by omega)) (by simp) (all e))
    | two w a b =>
      simp only [dep] at hd
      simp only [okD] at ho2
      have e : mkD (rmk rs) (.two w a b) = rise tLt ([] ++ ([a, b].map (mkD (rmk rs))).flatten) := by simp [mkD]
      refine body (by unfold ct_f_marks_of; rfl) ?_
      rw [e]
      refine hd0 (fun _ => by cases w <;> rfl) (fun _ => by cases w <;> rfl) (tail_T (f := []) (ps := [a, b]) (mk := mkD (rmk rs)) (words.2.2.2.2.2.2.2.2.2 w) (wordsO.2.2.2.2.2.2.2.2.2 w) (by simp [okTop_enc, okTop_str]) (by simp) (by simp [isTp_enc, isTp_str]) (by omega) (by
        intro p hp
        simp only [List.mem_cons, List.not_mem_nil, or_false] at hp
        rcases hp with rfl | rfl
        · exact part _ _ (by omega) ho2.1 (by omega)
        · exact part _ _ (by omega) ho2.2 (by omega)) (by simp) (all e))
    | own x a b =>
      simp only [dep] at hd
      simp only [okD] at ho2
      have e : mkD (rmk rs) (.own x a b) = rise tLt (mkD (rmk rs) a ++ (mkD (rmk rs) b).filter fun q => !(q == mR x) && !(q == mW x)) := by simp [mkD]
      refine body (by unfold ct_f_marks_of; rfl) ?_
      rw [e]
      obtain ⟨a1, a2⟩ := part a (m + 1) (by omega) ho2.2.1 (by omega)
      obtain ⟨b1, b2⟩ := part b (m + 1) (by omega) ho2.2.2 (by omega)
      refine hd0 (fun _ => rfl) (fun _ => rfl) (t_skip rfl (t_seqR (t_if (b := true) rfl ?_)))
      rw [if_pos rfl]
      refine t_asg (t := lm ((mkD (rmk rs) b).filter fun q => !(q == mR x) && !(q == mW x))) (t_lc (l := mkD (rmk rs) b) (m := unX) (k := fun q => !(q == mR x) && !(q == mW x)) (f := unX) (ti_any (l := lm (mkD (rmk rs) b)) (by simp [b1]) (.inl rfl)) (fun q hq => ⟨_, rfl, ?_, fun _ => rfl⟩) (by omega)) rfl (t_ret ?_)
      · have f1 : Fine (unX q) := (fine_mark (mk_in ho (okD_take ho2.2.2) q hq) 37)
        have inx : ∀ y ∈ [mR x, mW x], y ∈ allM := by
          have kx := ho2.1
          have hx := kd2_in kx
          simp only [List.mem_cons, List.not_mem_nil, or_false] at hx
          rcases hx with rfl | rfl <;> decide +kernel
        have f2 : FineL 37 ([mR x, mW x].map unX) := .all fun t ht => by
          obtain ⟨y, hy, rfl⟩ := List.mem_map.mp ht
          exact fine_mark (inx y hy) 36
        have z : (tBin qNotIn (tVar 6) (tTup (tCons (tTup (tCons (tC (.str "read")) (tCons (tBin qGet (tVar 1) (tC (.int 1))) tNil))) (tCons (tTup (tCons (tC (.str "write")) (tCons (tBin qGet (tVar 1) (tC (.int 1))) tNil))) tNil)))) [some (encRsT rs), some (.tup [.str "own", .str x, encT a, encT b]), some (.str "own"), some (lm []), none, none, some (unX q)] = qNotIn (unX q) (.tup ([mR x, mW x].map unX)) := by
          simp [unX, mR, mW]
        show ((tBin qNotIn (tVar 6) (tTup (tCons (tTup (tCons (tC (.str "read")) (tCons (tBin qGet (tVar 1) (tC (.int 1))) tNil))) (tCons (tTup (tCons (tC (.str "write")) (tCons (tBin qGet (tVar 1) (tC (.int 1))) tNil))) tNil)))) [some (encRsT rs), some (.tup [.str "own", .str x, encT a, encT b]), some (.str "own"), some (lm []), none, none, some (unX q)]).bind asB = _
        rw [z, qNotIn_fine f1 f2 (.inr rfl), RT.bind_ok, asB_bl]
        congr 1
        have key : (unX q ∈ [mR x, mW x].map unX) ↔ (q = mR x ∨ q = mW x) := by
          rw [List.mem_map]
          constructor
          · rintro ⟨y, hy, ey⟩
            rw [← unX_inj ey]
            simpa using hy
          · rintro (h | h)
            · exact ⟨mR x, by simp, by rw [h]⟩
            · exact ⟨mW x, by simp, by rw [h]⟩
        classical
        by_cases h : q = mR x ∨ q = mW x
        · rw [decide_eq_true (key.mpr h)]
          rcases h with h | h <;> simp [h]
        · rw [decide_eq_false (fun y => h (key.mp y))]
          rw [not_or] at h
          simp [h.1, h.2]
      · have on := once_T (n := m + 1) (all e) (by omega)
        have fl := List.length_filter_le (fun q => !(q == mR x) && !(q == mW x)) (mkD (rmk rs) b)
        have ad := lm_add (l := mkD (rmk rs) a) (m := (mkD (rmk rs) b).filter fun q => !(q == mR x) && !(q == mW x)) (by omega)
        simp only [te_call, te_cons, te_nil, te_bin, te_C]
        rw [te_V (t := encRsT rs) rfl, te_V (t := .tup [.str "own", .str x, encT a, encT b]) rfl, te_V (t := lm ((mkD (rmk rs) b).filter fun q => !(q == mR x) && !(q == mW x))) rfl]
        simp only [RT.bind_ok, q_getT, atI_2, List.length_cons, List.length_nil, Nat.reduceAdd, if_true, a1, ad]
        exact on
    | call i ps hs =>
      simp only [dep] at hd
      have ho3 := ho2
      simp only [okD] at ho2
      obtain ⟨r, hr, es⟩ : ∃ r, (rs.take j)[i]? = some r ∧ (r.ns.length, r.hs.length) = (ps.length, hs.length) := by
        have z := ho2.1
        unfold szs at z
        rw [List.getElem?_map] at z
        exact Option.map_eq_some_iff.mp z
      injection es with es1 es2
      have hij : i < j ∧ rs[i]? = some r := by
        rw [List.getElem?_take] at hr
        split at hr
        · exact ⟨‹_›, hr⟩
        · cases hr
      have hmem := List.mem_of_getElem? hij.2
      obtain ⟨l1, l2⟩ := hsz r hmem
      have ra := rmk_at rs i r ho hij.2
      have rok := ho i r hij.2
      have rb : okD (szs rs) (r.ns ++ r.hs) r.b := okD_take rok.b
      refine body (by unfold ct_f_marks_of; rfl) ?_
      have e0 : encT (.call i ps hs) = .tup [.str "call", .int i, .tup (ps.map encT), .tup (hs.map encT)] := by rw [encT, encTs_map, encTs_map]
      have main := call_T (R := rmk rs) (n := m + 1) (ps := ps) (hd := hs) hij.2 h1000 rok.h rok.n es2 (by omega) (by omega) (by omega)
        (fun p hp => by
          have := dep_in hp
          exact part p _ (by omega) (okDs_iff.mp ho2.2.1 p hp) (by omega))
        (fun p hp => by
          have := dep_in hp
          exact part p _ (by omega) (okDs_iff.mp ho2.2.2 p hp) (by omega))
        (by rw [ra]; exact hB i r hij.2 hij.1 _ (by omega)) (by rw [ra]; exact mk_len ho rb) (by rw [ra])
        (by rw [ra]; exact mk_ok (okMR_of rs ho) (fun i r h => ⟨(ho i r h).n, (ho i r h).h⟩) (dep r.b) r.b (Nat.le_refl _) rb) hin
      rw [e0] at main ⊢
      refine hd0 (fun _ => rfl) (fun _ => rfl) (t_seqR (t_if (b := true) rfl ?_))
      rw [if_pos rfl]
      refine t_ret ?_
      simp only [te_call, te_cons, te_nil]
      rw [te_V (t := encRsT rs) rfl, te_V (t := .tup [.str "call", .int i, .tup (ps.map encT), .tup (hs.map encT)]) rfl]
      exact main
end
end DL

set_option Elab.async false
set_option linter.all false
set_option maxRecDepth 100000
set_option maxHeartbeats 1000000
namespace DL
open PySem
open KS (rise tLt ord_tup mem_rise)
inductive Tch where
  | ask | read (x : Str) | wrt (x : Str) (v : Int) | say (v : Int)
def actT : Tch → Thk
  | .ask => tAskd | .read x => tRead x | .wrt x v => tWrt x v | .say v => tSayd v
def mkT : Tch → Mk
  | .ask => mA | .read x => mR x | .wrt x _ => mW x | .say _ => mS
inductive Pg (α : Type) where
  | ret (a : α) | act (m : Tch) (k : Int → Pg α)
def Pg.bind {α β : Type} : Pg α → (α → Pg β) → Pg β
  | .ret a, f => f a
  | .act m k, f => .act m fun v => (k v).bind f
def Pg.go {α : Type} : Pg α → Stt → α × Stt
  | .ret a, st => (a, st)
  | .act m k, st => (k (actT m st).1).go (actT m st).2
def Pg.In {α : Type} (A : Mk → Prop) : Pg α → Prop
  | .ret _ => True
  | .act m k => A (mkT m) ∧ ∀ v, (k v).In A
theorem Pg.In.mono {α : Type} {A B : Mk → Prop} (hAB : ∀ m, A m → B m) : ∀ {p : Pg α}, p.In A → p.In B
  | .ret _, _ => trivial
  | .act _ _, h => ⟨hAB _ h.1, fun v => Pg.In.mono hAB (h.2 v)⟩
def Stt.withC (s : Stt) (c : List Int) : Stt := ⟨s.kept, s.asked, s.many, s.spoken, s.marks, c⟩
abbrev PT := List Int → Pg (Int × List Int)
def itp (t : PT) : Thk := fun st => (((t st.cells).go st).1.1, ((t st.cells).go st).2.withC ((t st.cells).go st).1.2)
inductive PEV where
  | int (v : Int) | cell (i : Nat) | th (t : PT)
abbrev PEn := Str → Option PEV
def putP (x : Str) (v : PEV) (env : PEn) : PEn := fun y => if y = x then some v else env y
def Sm (t : Thk) (p : PT) : Prop := ∀ st, t st = itp p st
inductive EvP : Option EV → Option PEV → Prop
  | non : EvP none none
  | int (v : Int) : EvP (some (.int v)) (some (.int v))
  | cell (i : Nat) : EvP (some (.cell i)) (some (.cell i))
  | th {t : Thk} {p : PT} : Sm t p → EvP (some (.th t)) (some (.th p))
def EnvP (env : Ev) (pe : PEn) : Prop := ∀ x, EvP (env x) (pe x)
theorem EnvP.put {env : Ev} {pe : PEn} (h : EnvP env pe) {x : Str} {v : EV} {v' : PEV} (r : EvP (some v) (some v')) : EnvP (putE x v env) (putP x v' pe) := fun y => by
  unfold putE putP
  split
  · exact r
  · exact h y
end DL

set_option Elab.async false
set_option linter.all false
set_option maxRecDepth 100000
set_option maxHeartbeats 1000000
namespace DL
open PySem
open KS (rise tLt ord_tup mem_rise Rising)
section
variable {rs : List Rule}
theorem rules_marks (ho : okRs rs) (h1000 : rs.length ≤ 1000) (hsz : ∀ r ∈ rs, r.ns.length ≤ 100 ∧ r.hs.length ≤ 100) {D : Nat} (hD : ∀ r ∈ rs, dep r.b ≤ D) :
    ∀ (i : Nat) (r : Rule), rs[i]? = some r → ∀ n, i * (3 * D + 6) + (3 * D + 6) ≤ n → tv (csem n .f_marks_of) [encRsT rs, encT r.b] = .ok (lm (mkD (rmk rs) r.b)) := by
  intro i
  induction i using Nat.strongRecOn with
  | _ i ih =>
    intro r hr n hn
    refine deed_marks (j := i) (B := i * (3 * D + 6)) ho h1000 hsz (fun i' r' hr' hi n' hn' => ih i' hi r' hr' n' (Nat.le_trans ?_ hn')) D r.b n (hD r (List.mem_of_getElem? hr)) (ho i r hr).b (by omega)
    have : (i' + 1) * (3 * D + 6) ≤ i * (3 * D + 6) := Nat.mul_le_mul_right _ hi
    rw [Nat.add_mul, Nat.one_mul] at this
    exact this
def shOf (w : Str) (l : List Mk) : List Str := (l.filter fun m => decide (m.headD "" = w)).map fun m => m.getD 1 ""
def hasTwo (w : Str) (l : List Mk) : Prop := ∀ m ∈ l, m.headD "" = w → 2 ≤ m.length
theorem unX_head {m : Mk} (h : m ≠ []) : qGet (unX m) (.int 0) = .ok (.str (m.headD "")) := by
  cases m with
  | nil => exact absurd rfl h
  | cons w r => exact head_M
theorem unX_two {m : Mk} (h : 2 ≤ m.length) : qGet (unX m) (.int 1) = .ok (.str (m.getD 1 "")) := by
  match m, h with
  | w :: x :: r, _ => exact second_M
theorem allM_two : hasTwo "read" allM ∧ hasTwo "write" allM := by unfold hasTwo; constructor <;> decide +kernel
section
end
end
end DL

set_option Elab.async false
set_option linter.all false
set_option maxRecDepth 100000
set_option maxHeartbeats 1000000
namespace DL
open PySem
open KS (rise tLt ord_tup mem_rise Rising)
section
variable {rs : List Rule}
theorem fall_bls' : ∀ bs : List Bool, fall blT (bs.map T.bl) = some bs
  | [] => rfl
  | b :: bs => by simp only [List.map_cons, fall, blT, fall_bls' bs]
theorem qAll_bls (bs : List Bool) : qAll [.lst (bs.map T.bl)] = .ok (.bl (bs.all id)) := by
  show (match fall blT (bs.map T.bl) with | some ns => RT.ok (T.bl (ns.all id)) | none => .bad) = _
  rw [fall_bls']
theorem str_map_mem {x : Str} {l : List Str} : (T.str x ∈ l.map T.str) ↔ x ∈ l := by
  constructor
  · intro h
    obtain ⟨y, hy, e⟩ := List.mem_map.mp h
    injection e with e
    rw [← e]; exact hy
  · exact List.mem_map_of_mem
section
end
end
end DL

set_option Elab.async false
set_option linter.all false
set_option maxRecDepth 100000
set_option maxHeartbeats 1000000
namespace DL
open PySem
open KS (rise tLt ord_tup mem_rise Rising)
theorem sok_words : sok "number" = true ∧ sok "name" = true ∧ sok "do" = true ∧ sok "ask" = true ∧ sok "read" = true ∧ sok "write" = true ∧ sok "say" = true ∧ sok "let" = true ∧ sok "own" = true ∧ sok "if" = true ∧ sok "call" = true ∧ ∀ w : Two, sok w.w = true := by
  refine ⟨by decide +kernel, by decide +kernel, by decide +kernel, by decide +kernel, by decide +kernel, by decide +kernel, by decide +kernel, by decide +kernel, by decide +kernel, by decide +kernel, by decide +kernel, fun w => by cases w <;> decide +kernel⟩
theorem sok_shelf {K : List Str} {x : Str} (h : (x ∈ K ∧ kd x = 2) ∨ x ∈ abcd) : sok x = true := by
  rcases h with ⟨_, h⟩ | h
  · exact sok_kd (by omega)
  · exact sok_abcd x h
theorem fine_enc {sz : List (Nat × Nat)} : ∀ (m : Nat) (d : Deed) {K : List Str} (k : Nat), dep d ≤ m → okD sz K d → 2 * m + 2 ≤ k → FineK k (encT d) := by
  intro m
  induction m with
  | zero =>
    intro d K k hd ho hk
    obtain ⟨k, rfl⟩ : ∃ j, k = j + 1 := ⟨k - 1, by omega⟩
    cases d <;> simp only [dep] at hd <;> try omega
    · exact .tup (.cons (.str _ sok_words.1) (.cons (.int _ _) (.nil _)))
    · exact .tup (.cons (.str _ sok_words.2.1) (.cons (.str _ (sok_kd (by rw [ho.2]; decide))) (.nil _)))
    · exact .tup (.cons (.str _ sok_words.2.2.1) (.cons (.str _ (sok_kd (by rw [ho.2]; decide))) (.nil _)))
    · exact .tup (.cons (.str _ sok_words.2.2.2.1) (.nil _))
    · exact .tup (.cons (.str _ sok_words.2.2.2.2.1) (.cons (.str _ (sok_shelf ho)) (.nil _)))
  | succ m ih =>
    intro d K k hd ho hk
    obtain ⟨k, rfl⟩ : ∃ j, k = j + 1 := ⟨k - 1, by omega⟩
    have sub : ∀ (a : Deed) {K' : List Str}, dep a ≤ m → okD sz K' a → FineK k (encT a) := fun a K' h1 h2 => ih a k h1 h2 (by omega)
    cases d with
    | num i => exact ih _ _ (by simp [dep]) ho (by omega)
    | nam x => exact ih _ _ (by simp [dep]) ho (by omega)
    | dod x => exact ih _ _ (by simp [dep]) ho (by omega)
    | ask => exact ih _ _ (by simp [dep]) ho (by omega)
    | rd x => exact ih _ _ (by simp [dep]) ho (by omega)
    | wr x a =>
      simp only [dep] at hd
      exact .tup (.cons (.str _ sok_words.2.2.2.2.2.1) (.cons (.str _ (sok_shelf ho.1)) (.cons (sub a (by omega) ho.2) (.nil _))))
    | say a =>
      simp only [dep] at hd
      simp only [okD] at ho
      exact .tup (.cons (.str _ sok_words.2.2.2.2.2.2.1) (.cons (sub a (by omega) ho) (.nil _)))
    | lt x a b =>
      simp only [dep] at hd
      exact .tup (.cons (.str _ sok_words.2.2.2.2.2.2.2.1) (.cons (.str _ (sok_kd (by rw [ho.1]; decide))) (.cons (sub a (by omega) ho.2.1) (.cons (sub b (by omega) ho.2.2) (.nil _)))))
    | own x a b =>
      simp only [dep] at hd
      exact .tup (.cons (.str _ sok_words.2.2.2.2.2.2.2.2.1) (.cons (.str _ (sok_kd (by rw [ho.1]; decide))) (.cons (sub a (by omega) ho.2.1) (.cons (sub b (by omega) ho.2.2) (.nil _)))))
    | iff a b c =>
      simp only [dep] at hd
      exact .tup (.cons (.str _ sok_words.2.2.2.2.2.2.2.2.2.1) (.cons (sub a (by omega) ho.1) (.cons (sub b (by omega) ho.2.1) (.cons (sub c (by omega) ho.2.2) (.nil _)))))
    | two w a b =>
      simp only [dep] at hd
      exact .tup (.cons (.str _ (sok_words.2.2.2.2.2.2.2.2.2.2.2 w)) (.cons (sub a (by omega) ho.1) (.cons (sub b (by omega) ho.2) (.nil _))))
    | call i ps hs =>
      simp only [dep] at hd
      obtain ⟨k, rfl⟩ : ∃ j, k = j + 1 := ⟨k - 1, by omega⟩
      have e0 : encT (.call i ps hs) = .tup [.str "call", .int i, .tup (ps.map encT), .tup (hs.map encT)] := by rw [encT, encTs_map, encTs_map]
      rw [e0]
      have lists : ∀ ds : List Deed, deps ds ≤ m → (∀ p ∈ ds, okD sz K p) → FineK (k + 1) (.tup (ds.map encT)) := fun ds h1 h2 => .tup (.all fun t ht => by
        obtain ⟨p, hp, rfl⟩ := List.mem_map.mp ht
        have := dep_in hp
        exact ih p k (by omega) (h2 p hp) (by omega))
      exact .tup (.cons (.str _ sok_words.2.2.2.2.2.2.2.2.2.2.1) (.cons (.int _ _) (.cons (lists ps (by omega) (okDs_iff.mp ho.2.1)) (.cons (lists hs (by omega) (okDs_iff.mp ho.2.2)) (.nil _)))))
end DL

set_option Elab.async false
set_option linter.all false
set_option maxRecDepth 100000
set_option maxHeartbeats 1000000
namespace DL
open PySem
open KS (rise tLt ord_tup mem_rise Rising)
abbrev lmOwn : TSDen := tsIf (tbAnd (tTest (tBin qEq (tBin qGet (tVar 1) (tC (.int 0))) (tC (.str "own")))) (tTest (tBin qEq (tVar 5) (tC (.int 3))))) (tsAsg (tLc (tiAny (tVar 6)) (hN 4) (tTest (tBin qNe (tSl (tVar 4) (tPart (tC (.int 1))) tNoPart) (tTup (tCons (tBin qGet (tVar 1) (tC (.int 1))) tNil)))) (tVar 4) [4]) (hN 6)) tsNil
abbrev lmBody (F : List T → RT T) : TSDen := tsIf (tTest (tIsi "tuple" (tVar 3))) (tsSeq (tsAsg (tCall 2 F (tCons (tVar 0) (tCons (tVar 3) tNil))) (hN 6)) (tsSeq lmOwn (tsAsg (tBin qAdd (tVar 2) (tVar 6)) (hN 2)))) tsNil
section
variable {F : List T → RT T} {A D : T} {f g : List Mk} {t : T} {z4 z5 z6 : Option T} {p : Deed} {k : Nat} {w : Str} {ts : List T}
theorem isi_T {τ : TEnv} (h : τ[3]? = some (some t)) (ho : okTop t) : tTest (tIsi "tuple" (tVar 3)) τ = .ok (isTp t) := by
  show ((tIsi "tuple" (tVar 3)) τ).bind asB = _
  unfold tIsi
  rw [te_V h, RT.bind_ok, kit_top ho]
  rfl
theorem lm_skip (ho : okTop t) (hp : isTp t = false) : lmBody F [some A, some D, some (lm f), some t, z4, z5, z6] = .ok (.nx [some A, some D, some (lm f), some t, z4, z5, z6]) :=
  t_if (b := false) (by rw [isi_T rfl ho, hp]) rfl
theorem lm_part (h : F [A, encT p] = .ok (lm g)) (hg : f.length + g.length ≤ 1000000) (hw : w ≠ "own" ∨ k ≠ 3) :
    lmBody F [some A, some (.tup (.str w :: ts)), some (lm f), some (encT p), z4, some (.int (k : Nat)), z6] = .ok (.nx [some A, some (.tup (.str w :: ts)), some (lm (f ++ g)), some (encT p), z4, some (.int (k : Nat)), some (lm g)]) := by
  refine t_if (b := true) (by rw [isi_T rfl (okTop_enc p), isTp_enc]) ?_
  rw [if_pos rfl]
  refine t_asg (t := lm g) (by simp [h]) rfl ?_
  simp only [List.set_cons_succ, List.set_cons_zero]
  refine t_seq (τ' := [some A, some (.tup (.str w :: ts)), some (lm f), some (encT p), z4, some (.int (k : Nat)), some (lm g)]) (t_if (b := false) ?_ rfl) (t_asg1 (t := lm (f ++ g)) ?_ rfl)
  · simp only [te_and, te_test, te_bin, te_C]
    rw [te_V (t := .tup (.str w :: ts)) rfl, te_V (t := .int (k : Nat)) rfl]
    simp only [RT.bind_ok, q_getT, atI_0, q_eqS, q_eqI, asB_bl]
    rcases hw with hw | hw
    · rw [decide_eq_false hw]; rfl
    · by_cases c : w = "own"
      · rw [decide_eq_true c]
        simp only [if_true, asB_bl]
        congr 1
        exact decide_eq_false (by omega)
      · rw [decide_eq_false c]; rfl
  · simp [lm_add hg]
def noOwn (x : Str) (l : List Mk) : List Mk := l.filter fun m => decide (m.tail ≠ [x])
theorem tail_X (m : Mk) : qSl (unX m) (some 1) none = .ok (.tup (m.tail.map T.str)) := by
  have z := cut_hi (ts := m.map T.str) (k := 1)
  show RT.ok (T.tup (cutT (m.map T.str) (some ((1 : Nat) : Int)) none)) = _
  rw [z, List.drop_one, ← List.map_tail]
theorem lm_own {x : Str} {us : List T} (h : F [A, encT p] = .ok (lm g)) (h17 : g.length ≤ 17) (hg : f.length + g.length ≤ 1000000) (hx : sok x = true) (hin : ∀ m ∈ g, m ∈ allM) :
    lmBody F [some A, some (.tup (.str "own" :: .str x :: us)), some (lm f), some (encT p), z4, some (.int ((3 : Nat) : Int)), z6] = .ok (.nx [some A, some (.tup (.str "own" :: .str x :: us)), some (lm (f ++ noOwn x g)), some (encT p), z4, some (.int ((3 : Nat) : Int)), some (lm (noOwn x g))]) := by
  refine t_if (b := true) (by rw [isi_T rfl (okTop_enc p), isTp_enc]) ?_
  rw [if_pos rfl]
  refine t_asg (t := lm g) (by simp [h]) rfl ?_
  simp only [List.set_cons_succ, List.set_cons_zero]
  have fl := List.length_filter_le (fun m : Mk => decide (m.tail ≠ [x])) g
  refine t_seq (τ' := [some A, some (.tup (.str "own" :: .str x :: us)), some (lm f), some (encT p), z4, some (.int ((3 : Nat) : Int)), some (lm (noOwn x g))]) (t_if (b := true) ?_ ?_) (t_asg1 (t := lm (f ++ noOwn x g)) ?_ rfl)
  · simp only [te_and, te_test, te_bin, te_C]
    rw [te_V (t := .tup (.str "own" :: .str x :: us)) rfl, te_V (t := .int ((3 : Nat) : Int)) rfl]
    simp
  · rw [if_pos rfl]
    refine t_asg1 (t := lm (noOwn x g)) (t_lc (l := g) (m := unX) (k := fun m => decide (m.tail ≠ [x])) (f := unX) (ti_any (l := lm g) rfl (.inl rfl)) (fun m hm => ⟨_, rfl, ?_, fun _ => rfl⟩) (by omega)) rfl
    have e : (tBin qNe (tSl (tVar 4) (tPart (tC (.int 1))) tNoPart) (tTup (tCons (tBin qGet (tVar 1) (tC (.int 1))) tNil))) [some A, some (.tup (.str "own" :: .str x :: us)), some (lm f), some (encT p), some (unX m), some (.int ((3 : Nat) : Int)), some (lm g)] = qNe (.tup (m.tail.map T.str)) (.tup [.str x]) := by
      simp only [te_bin, te_sl, te_part, te_C, te_noPart, te_tup, te_cons, te_nil]
      rw [te_V (t := unX m) rfl, te_V (t := .tup (.str "own" :: .str x :: us)) rfl]
      simp only [RT.bind_ok, asI_int, tail_X, q_getT, atI_1]
      simp
    show ((tBin qNe (tSl (tVar 4) (tPart (tC (.int 1))) tNoPart) (tTup (tCons (tBin qGet (tVar 1) (tC (.int 1))) tNil))) [some A, some (.tup (.str "own" :: .str x :: us)), some (lm f), some (encT p), some (unX m), some (.int ((3 : Nat) : Int)), some (lm g)]).bind asB = _
    have f1 : Fine (.tup (m.tail.map T.str)) := .tup (k := 37) (.all fun t ht => by
      obtain ⟨y, hy, rfl⟩ := List.mem_map.mp ht
      exact .str 37 (sok_all m (hin m hm) y (List.mem_of_mem_tail hy)))
    have f2 : Fine (.tup [.str x]) := .tup (k := 37) (.cons (.str 37 hx) (.nil _))
    rw [e, qNe_fine f1 f2, RT.bind_ok, asB_bl]
    congr 1
    classical
    by_cases c : m.tail = [x]
    · rw [decide_eq_true (by rw [c]; rfl), decide_eq_false (fun z => z c)]; rfl
    · have : ¬ (T.tup (m.tail.map T.str) = T.tup [T.str x]) := fun z => c (unX_inj (a := m.tail) (b := [x]) z)
      rw [decide_eq_false this, decide_eq_true c]; rfl
  · have : f.length + (noOwn x g).length ≤ 1000000 := by unfold noOwn; omega
    simp [lm_add this]
end
theorem lm_loop {F : List T → RT T} {A D : T} : ∀ (items : List (T × List Mk)) (i : Nat) (f : List Mk) (z3 z4 z5 z6 : Option T),
    (∀ (k : Nat) (t : T) (g : List Mk), items[k]? = some (t, g) → ∀ (f : List Mk) (z4 z6 : Option T), f.length ≤ 100000 → ∃ z4' z6', lmBody F [some A, some D, some (lm f), some t, z4, some (.int ((i + k : Nat) : Int)), z6] = .ok (.nx [some A, some D, some (lm (f ++ g)), some t, z4', some (.int ((i + k : Nat) : Int)), z6'])) →
    (∀ q ∈ items, q.2.length ≤ 17) → f.length + 17 * items.length ≤ 100000 →
    ∃ z3' z4' z5' z6', tForL (hT 2 (hsCons (hN 5) (hsCons (hN 3) hsNil))) (lmBody F) (numT i (items.map (·.1))) [some A, some D, some (lm f), z3, z4, z5, z6] = .ok (.nx [some A, some D, some (lm (f ++ (items.map (·.2)).flatten)), z3', z4', z5', z6'])
  | [], i, f, z3, z4, z5, z6, _, _, _ => ⟨z3, z4, z5, z6, by simp [tForL, numT]⟩
  | (t, g) :: items, i, f, z3, z4, z5, z6, h, hg, hb => by
    simp only [List.length_cons] at hb
    have lg := hg (t, g) List.mem_cons_self
    obtain ⟨y4, y6, e1⟩ := h 0 t g rfl f z4 z6 (by omega)
    rw [Nat.add_zero] at e1
    obtain ⟨x3, x4, x5, x6, e2⟩ := lm_loop (F := F) (A := A) (D := D) items (i + 1) (f ++ g) (some t) y4 (some (.int (i : Nat))) y6 (fun k t' g' hk f' w4 w6 hf => by
      have := h (k + 1) t' g' (by simpa using hk) f' w4 w6 hf
      rw [show i + 1 + k = i + (k + 1) by omega]
      exact this) (fun q hq => hg q (List.mem_cons_of_mem _ hq)) (by
        have : g.length ≤ 17 := lg
        simp; omega)
    refine ⟨x3, x4, x5, x6, ?_⟩
    rw [List.map_cons, numT]
    unfold tForL
    have s1 : hT 2 (hsCons (hN 5) (hsCons (hN 3) hsNil)) (.tup [.int (i : Nat), t]) [some A, some D, some (lm f), z3, z4, z5, z6] = some [some A, some D, some (lm f), some t, z4, some (.int (i : Nat)), z6] := by simp
    simp only [s1, e1, tsN]
    rw [e2]
    simp
end DL

set_option Elab.async false
set_option linter.all false
set_option maxRecDepth 100000
set_option maxHeartbeats 1000000
namespace DL
open PySem
open KS (rise tLt ord_tup mem_rise Rising)
noncomputable abbrev lE1 : TDen := tBin qAdd (tBin qMul (tLst (tCons (tSl (tVar 1) tNoPart (tPart (tC (.int 2)))) tNil)) (tFn qI (tCons (tBin qIn (tBin qGet (tVar 1) (tC (.int 0))) (tTup (tCons (tC (.str "read")) (tCons (tC (.str "write")) (tCons (tC (.str "do")) tNil))))) tNil))) (tBin qMul (tLst (tCons (tVar 1) tNil)) (tFn qI (tCons (tBin qEq (tVar 1) (tTup (tCons (tC (.str "ask")) tNil))) tNil)))
noncomputable abbrev lE2 : TDen := tBin qAdd (tVar 2) (tBin qMul (tLst (tCons (tTup (tCons (tC (.str "say")) tNil)) tNil)) (tFn qI (tCons (tBin qEq (tBin qGet (tVar 1) (tC (.int 0))) (tC (.str "say"))) tNil)))
theorem mul_b {t : T} (b : Bool) : qMul (.lst [t]) (.int (if b = true then 1 else 0)) = .ok (.lst (if b = true then [t] else [])) := by
  cases b
  · have := q_mulR (t := t) (m := 0) (by omega)
    simpa using this
  · have := q_mulR (t := t) (m := 1) (by omega)
    simpa using this
theorem cut_2 {ts : List T} : qSl (.tup ts) none (some 2) = .ok (.tup (ts.take 2)) := by
  have z := cut_lo' (ts := ts) (k := 2)
  exact congrArg (fun z => RT.ok (T.tup z)) z
section
variable {A : T} {w : Str} {ts : List T} {rest : TSDen} {r : RT TFl} {b1 b2 b3 : Bool}
theorem hdL (h1 : qIn (.str w) (.tup [.str "read", .str "write", .str "do"]) = .ok (.bl b1)) (h2 : qEq (.tup (.str w :: ts)) (.tup [.str "ask"]) = .ok (.bl b2)) (h3 : decide (w = ("say" : Str)) = b3)
    (k : rest [some A, some (.tup (.str w :: ts)), some (.lst ((if b1 = true then [T.tup ((.str w :: ts).take 2)] else []) ++ (if b2 = true then [T.tup (.str w :: ts)] else []) ++ (if b3 = true then [unX mS] else []))), none, none, none, none] = r) :
    tsSeq (tsAsg lE1 (hN 2)) (tsSeq (tsAsg lE2 (hN 2)) rest) [some A, some (.tup (.str w :: ts)), none, none, none, none, none] = r := by
  refine t_asg (t := T.lst ((if b1 = true then [T.tup ((.str w :: ts).take 2)] else []) ++ (if b2 = true then [T.tup (.str w :: ts)] else []))) ?_ rfl (t_asg (t := T.lst ((if b1 = true then [T.tup ((.str w :: ts).take 2)] else []) ++ (if b2 = true then [T.tup (.str w :: ts)] else []) ++ (if b3 = true then [unX mS] else []))) ?_ rfl k)
  · simp only [te_bin, te_fn, te_cons, te_nil, te_C, te_sl, te_part, te_noPart, te_lst, te_tup]
    rw [te_V (t := .tup (.str w :: ts)) rfl]
    simp only [RT.bind_ok, asI_int, cut_2, q_getT, atI_0, List.length_cons, List.length_nil, Nat.zero_add, Nat.reduceAdd, okB_1, okB_3, if_true, h1, h2, q_intB, mul_b, q_addL]
    rw [if_pos]
    cases b1 <;> cases b2 <;> rfl
  · simp only [te_bin, te_fn, te_cons, te_nil, te_C, te_lst, te_tup, List.set_cons_succ, List.set_cons_zero]
    rw [te_V (t := T.lst ((if b1 = true then [T.tup ((.str w :: ts).take 2)] else []) ++ (if b2 = true then [T.tup (.str w :: ts)] else []))) rfl, te_V (t := .tup (.str w :: ts)) rfl]
    simp only [RT.bind_ok, q_getT, atI_0, q_eqS, List.length_cons, List.length_nil, Nat.zero_add, Nat.reduceAdd, okB_1, if_true, h3, q_intB, mul_b, q_addL]
    rw [if_pos]
    · rfl
    · cases b1 <;> cases b2 <;> cases b3 <;> rfl
theorem tlL {F : List T → RT T} {f : List Mk} {items : List (T × List Mk)} (hw : items.map (·.1) = .str w :: ts)
    (h : ∀ (k : Nat) (t : T) (g : List Mk), items[k]? = some (t, g) → ∀ (f : List Mk) (z4 z6 : Option T), f.length ≤ 100000 → ∃ z4' z6', lmBody F [some A, some (.tup (.str w :: ts)), some (lm f), some t, z4, some (.int ((0 + k : Nat) : Int)), z6] = .ok (.nx [some A, some (.tup (.str w :: ts)), some (lm (f ++ g)), some t, z4', some (.int ((0 + k : Nat) : Int)), z6']))
    (hg : ∀ q ∈ items, q.2.length ≤ 17) (hb : f.length + 17 * items.length ≤ 100000) (hall : ∀ m ∈ f ++ (items.map (·.2)).flatten, m ∈ allM) :
    (tsSeq (tsFor (tiEnumA (tVar 1)) (hT 2 (hsCons (hN 5) (hsCons (hN 3) hsNil))) (lmBody F)) (tsRet (tSS (tVar 2)))) [some A, some (.tup (.str w :: ts)), some (lm f), none, none, none, none] = .ok (.rt (lm (rise tLt (f ++ (items.map (·.2)).flatten)))) := by
  obtain ⟨x3, x4, x5, x6, e⟩ := lm_loop (F := F) (A := A) (D := .tup (.str w :: ts)) items 0 f none none none none h hg hb
  rw [hw] at e
  refine t_seq (t_for (ts := numT 0 (.str w :: ts)) rfl e) (t_ret ?_)
  show ((tVar 2) _).bind qSS = _
  rw [te_V (t := lm (f ++ (items.map (·.2)).flatten)) rfl, RT.bind_ok]
  exact qSS_marks hall
end
end DL

set_option Elab.async false
set_option linter.all false
set_option maxRecDepth 100000
set_option maxHeartbeats 1000000
namespace DL
open PySem
open KS (rise tLt ord_tup mem_rise Rising)
theorem largs_loop {F : List T → RT T} {R : T} {mk : Deed → List Mk} : ∀ (ps : List Deed) (f : List Mk) (D z3 z4 z5 z6 : Option T), (∀ p ∈ ps, F [R, encT p] = .ok (lm (mk p)) ∧ (mk p).length ≤ 17) → f.length + 17 * ps.length ≤ 1000000 →
    ∃ z3', tForL (hN 3) (tsAsg (tBin qAdd (tVar 2) (tCall 2 F (tCons (tVar 0) (tCons (tVar 3) tNil)))) (hN 2)) (ps.map encT) [some R, D, some (lm f), z3, z4, z5, z6] = .ok (.nx [some R, D, some (lm (f ++ (ps.map mk).flatten)), z3', z4, z5, z6])
  | [], f, D, z3, z4, z5, z6, _, _ => ⟨z3, by simp [tForL]⟩
  | p :: ps, f, D, z3, z4, z5, z6, h, hb => by
    obtain ⟨h1, h2⟩ := h p List.mem_cons_self
    simp only [List.length_cons] at hb
    obtain ⟨z3', e⟩ := largs_loop (F := F) (R := R) (mk := mk) ps (f ++ mk p) D (some (encT p)) z4 z5 z6 (fun q hq => h q (List.mem_cons_of_mem _ hq)) (by simp; omega)
    refine ⟨z3', ?_⟩
    have step : tsAsg (tBin qAdd (tVar 2) (tCall 2 F (tCons (tVar 0) (tCons (tVar 3) tNil)))) (hN 2) [some R, D, some (lm f), some (encT p), z4, z5, z6] = .ok (.nx [some R, D, some (lm (f ++ mk p)), some (encT p), z4, z5, z6]) := by
      refine t_asg1 (t := lm (f ++ mk p)) ?_ rfl
      simp [h1, lm_add (l := f) (m := mk p) (by omega)]
    rw [List.map_cons]
    unfold tForL
    simp only [te_hN, List.set_cons_succ, List.set_cons_zero, step, tsN]
    rw [e]
    simp
abbrev lRule : TDen := tBin qGet (tVar 0) (tBin qGet (tVar 1) (tC (.int 1)))
abbrev lStep (F : List T → RT T) : TSDen := tsIf (tTest (tBin qEq (tBin qGet (tVar 4) (tC (.int 0))) (tC (.str "do")))) (tsAsg (tBin qAdd (tVar 2) (tCall 2 F (tCons (tVar 0) (tCons (tBin qGet (tBin qGet (tVar 1) (tC (.int 3))) (tIdxT (tBin qGet lRule (tC (.int 1))) (tBin qGet (tVar 4) (tC (.int 1))))) tNil)))) (hN 2)) (tsAsg (tBin qAdd (tVar 2) (tLst (tCons (tVar 4) tNil))) (hN 2))
theorem lmarks_loop {F : List T → RT T} {R D : T} {r : Rule} {hd : List Deed} {mk : Deed → List Mk} (hF : ∀ p ∈ hd, F [R, encT p] = .ok (lm (mk p)) ∧ (mk p).length ≤ 17) (hD : qGet D (.int 3) = .ok (.tup (hd.map encT))) (hl : r.hs.length = hd.length)
    (hr : ∀ (y2 y3 y4 y5 y6 : Option T), lRule [some R, some D, y2, y3, y4, y5, y6] = .ok (encRT r)) :
    ∀ (ms : List Mk) (f : List Mk) (z3 z4 z5 z6 : Option T), (∀ m ∈ ms, m = mS ∨ m = mA ∨ (∃ x, m = mR x ∨ m = mW x) ∨ ∃ x, x ∈ r.hs ∧ m = mD x) → f.length + 17 * ms.length ≤ 1000000 →
    ∃ z4', tForL (hN 4) (lStep F) (ms.map unX) [some R, some D, some (lm f), z3, z4, z5, z6] = .ok (.nx [some R, some D, some (lm (f ++ ms.flatMap (atCall r.hs (hd.map mk)))), z3, z4', z5, z6])
  | [], f, z3, z4, z5, z6, _, _ => ⟨z4, by simp [tForL]⟩
  | m :: ms, f, z3, z4, z5, z6, h, hb => by
    simp only [List.length_cons] at hb
    have plain : atCall r.hs (hd.map mk) m = [m] → (∃ w q, m = w :: q ∧ w ≠ "do") → ∃ g, atCall r.hs (hd.map mk) m = g ∧ g.length ≤ 17 ∧
        lStep F [some R, some D, some (lm f), z3, some (unX m), z5, z6] = .ok (.nx [some R, some D, some (lm (f ++ g)), z3, some (unX m), z5, z6]) := by
      rintro e ⟨w, q, rfl, hw⟩
      refine ⟨[w :: q], e, by simp, t_if (b := false) ?_ ?_⟩
      · simp only [te_test, te_bin, te_C]
        rw [te_V (t := unX (w :: q)) rfl]
        simp [head_M, hw]
      · rw [if_neg Bool.false_ne_true]
        refine t_asg1 (t := lm (f ++ [w :: q])) ?_ rfl
        simp only [te_bin, te_lst, te_cons, te_nil]
        rw [te_V (t := lm f) rfl, te_V (t := unX (w :: q)) rfl]
        simp only [RT.bind_ok, List.length_cons, List.length_nil, Nat.zero_add, okB_1, if_true]
        exact lm_add (l := f) (m := [w :: q]) (by simp; omega)
    have step : ∃ g, atCall r.hs (hd.map mk) m = g ∧ g.length ≤ 17 ∧ lStep F [some R, some D, some (lm f), z3, some (unX m), z5, z6] = .ok (.nx [some R, some D, some (lm (f ++ g)), z3, some (unX m), z5, z6]) := by
      rcases h m List.mem_cons_self with rfl | rfl | ⟨x, rfl | rfl⟩ | ⟨x, hx, rfl⟩
      · exact plain (at_say _ _) ⟨_, _, rfl, by decide +kernel⟩
      · exact plain (at_ask _ _) ⟨_, _, rfl, by decide +kernel⟩
      · exact plain (at_rd _ _ _) ⟨_, _, rfl, by decide +kernel⟩
      · exact plain (at_wr _ _ _) ⟨_, _, rfl, by decide +kernel⟩
      · obtain ⟨j, hj, lj⟩ := firstAt_in hx
        have lj2 : j < hd.length := by omega
        obtain ⟨h1, h2⟩ := hF hd[j] (List.getElem_mem lj2)
        have e1 : (hd.map mk).getD j [] = mk hd[j] := by rw [List.getD_eq_getElem?_getD, List.getElem?_map, List.getElem?_eq_getElem lj2]; rfl
        refine ⟨mk hd[j], by rw [at_do hj, e1], h2, t_if (b := true) ?_ ?_⟩
        · simp only [te_test, te_bin, te_C]
          rw [te_V (t := unX (mD x)) rfl]
          simp [mD, head_M]
        · rw [if_pos rfl]
          refine t_asg1 (t := lm (f ++ mk hd[j])) ?_ rfl
          have i1 : tIdxT (tBin qGet lRule (tC (.int 1))) (tBin qGet (tVar 4) (tC (.int 1))) [some R, some D, some (lm f), z3, some (unX (mD x)), z5, z6] = .ok (.int (j : Nat)) := by
            unfold tIdxT
            have a1 : tBin qGet lRule (tC (.int 1)) [some R, some D, some (lm f), z3, some (unX (mD x)), z5, z6] = .ok (tstrs r.hs) := by
              rw [te_bin, hr, RT.bind_ok, te_C, RT.bind_ok]
              simp [encRT]
            rw [a1, RT.bind_ok]
            have : textsT (tstrs r.hs) = some r.hs := fall_strX r.hs
            simp only [this, te_bin, te_C]
            rw [te_V (t := unX (mD x)) rfl]
            simp only [RT.bind_ok, second_M, mD, hj]
          have i2 : qGet (.tup (hd.map encT)) (.int (j : Nat)) = .ok (encT hd[j]) := by
            rw [q_getT, L2atI (l := hd.map encT) (j := j) (by simpa using lj2)]
            simp [lj2]
          have i3 : tCall 2 F (tCons (tVar 0) (tCons (tBin qGet (tBin qGet (tVar 1) (tC (.int 3))) (tIdxT (tBin qGet lRule (tC (.int 1))) (tBin qGet (tVar 4) (tC (.int 1))))) tNil)) [some R, some D, some (lm f), z3, some (unX (mD x)), z5, z6] = .ok (lm (mk hd[j])) := by
            rw [te_call, te_cons, te_cons, te_nil, te_bin, te_bin, te_C]
            rw [te_V (t := R) rfl, te_V (t := D) rfl, RT.bind_ok, RT.bind_ok, RT.bind_ok, hD, RT.bind_ok, i1, RT.bind_ok, i2]
            exact h1
          rw [te_bin, te_V (t := lm f) rfl, RT.bind_ok, i3, RT.bind_ok]
          exact lm_add (by omega)
    obtain ⟨g, eg, lg, es⟩ := step
    obtain ⟨z4', e⟩ := lmarks_loop hF hD hl hr ms (f ++ g) z3 (some (unX m)) z5 z6 (fun q hq => h q (List.mem_cons_of_mem _ hq)) (by simp; omega)
    refine ⟨z4', ?_⟩
    rw [List.map_cons]
    unfold tForL
    simp only [te_hN, List.set_cons_succ, List.set_cons_zero, es, tsN]
    rw [e, List.flatMap_cons, eg, List.append_assoc]
end DL

set_option Elab.async false
set_option linter.all false
set_option maxRecDepth 100000
set_option maxHeartbeats 1000000
namespace DL
open PySem
open KS (rise tLt ord_tup mem_rise Rising)
def ItL (F : List T → RT T) (A : T) (q : T × List Mk) : Prop := (okTop q.1 ∧ isTp q.1 = false ∧ q.2 = []) ∨ ∃ p, q.1 = encT p ∧ F [A, encT p] = .ok (lm q.2) ∧ q.2.length ≤ 17
theorem ItL.str {F : List T → RT T} {A : T} (x : Str) : ItL F A (.str x, []) := .inl ⟨okTop_str x, rfl, rfl⟩
theorem ItL.int {F : List T → RT T} {A : T} (i : Int) : ItL F A (.int i, []) := .inl ⟨.inr (.inl ⟨i, rfl⟩), rfl, rfl⟩
theorem ItL.len {F : List T → RT T} {A : T} {q : T × List Mk} : ItL F A q → q.2.length ≤ 17
  | .inl ⟨_, _, e⟩ => by rw [e]; simp
  | .inr ⟨_, _, _, h⟩ => h
theorem ItL.step {F : List T → RT T} {A : T} {w : Str} {ts : List T} {q : T × List Mk} (hw : w ≠ "own") (h : ItL F A q) {k : Nat} {f : List Mk} {z4 z6 : Option T} (hf : f.length ≤ 100000) :
    ∃ z4' z6', lmBody F [some A, some (.tup (.str w :: ts)), some (lm f), some q.1, z4, some (.int (k : Nat)), z6] = .ok (.nx [some A, some (.tup (.str w :: ts)), some (lm (f ++ q.2)), some q.1, z4', some (.int (k : Nat)), z6']) := by
  obtain ⟨t, g⟩ := q
  rcases h with ⟨h1, h2, h3⟩ | ⟨p, h1, h2, h3⟩
  · simp only at h1 h2 h3
    subst h3
    exact ⟨z4, z6, by rw [List.append_nil]; exact lm_skip h1 h2⟩
  · simp only at h1 h2 h3
    subst h1
    exact ⟨_, _, lm_part h2 (by show f.length + g.length ≤ _; omega) (.inl hw)⟩
theorem mem_noOwn {K : List Str} {x : Str} {l : List Mk} (hx : kd x = 2) (h : ∀ m ∈ l, okM K m) : noOwn x l = l.filter fun q => !(q == mR x) && !(q == mW x) := by
  unfold noOwn
  refine List.filter_congr fun m hm => ?_
  rcases h m hm with rfl | rfl | ⟨y, _, rfl | rfl⟩ | ⟨y, _, ky, rfl⟩
  · rfl
  · rfl
  · by_cases e : y = x
    · subst e; simp [mR]
    · have n1 : ¬ (mR y = mR x) := fun z => e (by simpa [mR] using z)
      have n2 : ¬ (mR y = mW x) := fun z => by
        have : ("read" : Str) = "write" := by simpa [mR, mW] using congrArg (fun l : List Str => l.headD "") z
        exact absurd this (by decide +kernel)
      rw [show decide ((mR y).tail ≠ [x]) = true by simp [mR, e], beq_eq_false_iff_ne.mpr n1, beq_eq_false_iff_ne.mpr n2]; rfl
  · by_cases e : y = x
    · subst e; simp [mW]
    · have n1 : ¬ (mW y = mW x) := fun z => e (by simpa [mW] using z)
      have n2 : ¬ (mW y = mR x) := fun z => by
        have : ("write" : Str) = "read" := by simpa [mR, mW] using congrArg (fun l : List Str => l.headD "") z
        exact absurd this (by decide +kernel)
      rw [show decide ((mW y).tail ≠ [x]) = true by simp [mW, e], beq_eq_false_iff_ne.mpr n1, beq_eq_false_iff_ne.mpr n2]; rfl
  · have e : ¬ (y = x) := fun z => by rw [z] at ky; omega
    have n1 : ¬ (mD y = mW x) := fun z => by
      have : ("do" : Str) = "write" := by simpa [mD, mW] using congrArg (fun l : List Str => l.headD "") z
      exact absurd this (by decide +kernel)
    have n2 : ¬ (mD y = mR x) := fun z => by
      have : ("do" : Str) = "read" := by simpa [mD, mR] using congrArg (fun l : List Str => l.headD "") z
      exact absurd this (by decide +kernel)
    rw [show decide ((mD y).tail ≠ [x]) = true by simp [mD, e], beq_eq_false_iff_ne.mpr n1, beq_eq_false_iff_ne.mpr n2]; rfl
section
variable {rs : List Rule} {j B : Nat}
theorem deed_lmarks (ho : okRs rs) (h1000 : rs.length ≤ 1000) (hsz : ∀ r ∈ rs, r.ns.length ≤ 100 ∧ r.hs.length ≤ 100) (hB : ∀ (i : Nat) (r : Rule), rs[i]? = some r → i < j → ∀ n, B ≤ n → tv (csem n .f__law_marks) [encRsT rs, encT r.b] = .ok (lm (mkD (rmk rs) r.b))) :
    ∀ (k : Nat) (d : Deed) {K : List Str} (n : Nat), k ≤ 15 → dep d ≤ k → okD (szs (rs.take j)) K d → B + k + 6 ≤ n → tv (csem n .f__law_marks) [encRsT rs, encT d] = .ok (lm (mkD (rmk rs) d)) := by
  intro k
  induction k with
  | zero =>
    intro d K n _ hd ho2 hn
    have hin := mk_in ho (okD_take ho2)
    obtain ⟨m, rfl⟩ : ∃ m, n = m + 2 := ⟨n - 2, by omega⟩
    have fin : Fine (encT d) := fine_enc 0 d 38 hd (okD_take ho2) (by omega)
    have fask : Fine (T.tup [.str "ask"]) := .tup (k := 37) (.cons (.str 37 sok_words.2.2.2.1) (.nil _))
    have body : ∀ {u : TSDen}, u = ct_f__law_marks (fun g => tv (csem (m + 1) g)) (ov (csem (m + 1))) (ov (csem m)) → u [some (encRsT rs), some (encT d), none, none, none, none, none] = .ok (.rt (lm (mkD (rmk rs) d))) → tv (csem (m + 2) .f__law_marks) [encRsT rs, encT d] = .ok (lm (mkD (rmk rs) d)) := by
      rintro u rfl h
      exact cq_f__law_marks (t_run rfl h) (by simp)
    have steps : ∀ {w : Str} {ts : List T} {items : List (T × List Mk)}, w ≠ "own" → (∀ q ∈ items, ItL (tv (csem (m + 1) .f__law_marks)) (encRsT rs) q) → ∀ (k : Nat) (t : T) (g : List Mk), items[k]? = some (t, g) → ∀ (f : List Mk) (z4 z6 : Option T), f.length ≤ 100000 → ∃ z4' z6', lmBody (tv (csem (m + 1) .f__law_marks)) [some (encRsT rs), some (.tup (.str w :: ts)), some (lm f), some t, z4, some (.int ((0 + k : Nat) : Int)), z6] = .ok (.nx [some (encRsT rs), some (.tup (.str w :: ts)), some (lm (f ++ g)), some t, z4', some (.int ((0 + k : Nat) : Int)), z6']) :=
      fun hw hi k t g hk f z4 z6 hf => (hi _ (List.mem_of_getElem? hk)).step hw hf
    cases d <;> simp only [dep] at hd <;> try omega
    · rename_i i
      refine body (by unfold ct_f__law_marks; rfl) (t_skip rfl (hdL (b1 := false) (b2 := false) (b3 := false) rfl (qEq_not fin fask (by simp [encT])) rfl ?_))
      exact tlL (f := []) (items := [(.str "number", []), (.int i, [])]) rfl (steps wordsO.1 (by simp [ItL.str, ItL.int])) (by simp) (by simp) (by simp)
    · rename_i x
      refine body (by unfold ct_f__law_marks; rfl) (t_skip rfl (hdL (b1 := false) (b2 := false) (b3 := false) rfl (qEq_not fin fask (by simp [encT])) rfl ?_))
      exact tlL (f := []) (items := [(.str "name", []), (.str x, [])]) rfl (steps wordsO.2.1 (by simp [ItL.str, ItL.int])) (by simp) (by simp) (by simp)
    · rename_i x
      refine body (by unfold ct_f__law_marks; rfl) (t_skip rfl (hdL (b1 := true) (b2 := false) (b3 := false) rfl (qEq_not fin fask (by simp [encT])) rfl ?_))
      exact tlL (f := [mD x]) (items := [(.str "do", []), (.str x, [])]) rfl (steps wordsO.2.2.1 (by simp [ItL.str, ItL.int])) (by simp) (by simp) (by simpa [mkD] using hin)
    · refine body (by unfold ct_f__law_marks; rfl) (t_skip rfl (hdL (b1 := false) (b2 := true) (b3 := false) rfl (qEq_same fin rfl) rfl ?_))
      exact tlL (f := [mA]) (items := [(.str "ask", [])]) rfl (steps wordsO.2.2.2.1 (by simp [ItL.str, ItL.int])) (by simp) (by simp) (by simpa [mkD] using hin)
    · rename_i x
      refine body (by unfold ct_f__law_marks; rfl) (t_skip rfl (hdL (b1 := true) (b2 := false) (b3 := false) rfl (qEq_not fin fask (by simp [encT])) rfl ?_))
      exact tlL (f := [mR x]) (items := [(.str "read", []), (.str x, [])]) rfl (steps wordsO.2.2.2.2.1 (by simp [ItL.str, ItL.int])) (by simp) (by simp) (by simpa [mkD] using hin)
  | succ k ih =>
    intro d K n hk15 hd ho2 hn
    have hin := mk_in ho (okD_take ho2)
    have part : ∀ (q : Deed) {K' : List Str} (n' : Nat), dep q ≤ k → okD (szs (rs.take j)) K' q → B + k + 6 ≤ n' → tv (csem n' .f__law_marks) [encRsT rs, encT q] = .ok (lm (mkD (rmk rs) q)) ∧ (mkD (rmk rs) q).length ≤ 17 :=
      fun q K' n' h1 h2 h3 => ⟨ih q n' (by omega) h1 h2 h3, mk_len ho (okD_take h2)⟩
    obtain ⟨m, rfl⟩ : ∃ m, n = m + 2 := ⟨n - 2, by omega⟩
    have fin : Fine (encT d) := fine_enc (k + 1) d 38 hd (okD_take ho2) (by omega)
    have fask : Fine (T.tup [.str "ask"]) := .tup (k := 37) (.cons (.str 37 sok_words.2.2.2.1) (.nil _))
    have all : ∀ {l : List Mk}, mkD (rmk rs) d = rise tLt l → ∀ q ∈ l, q ∈ allM := fun e q hq => hin q (by rw [e]; exact (mem_rise ord_tup).mpr hq)
    have body : ∀ {u : TSDen}, u = ct_f__law_marks (fun g => tv (csem (m + 1) g)) (ov (csem (m + 1))) (ov (csem m)) → u [some (encRsT rs), some (encT d), none, none, none, none, none] = .ok (.rt (lm (mkD (rmk rs) d))) → tv (csem (m + 2) .f__law_marks) [encRsT rs, encT d] = .ok (lm (mkD (rmk rs) d)) := by
      rintro u rfl h
      exact cq_f__law_marks (t_run rfl h) (by simp)
    have steps : ∀ {w : Str} {ts : List T} {items : List (T × List Mk)}, w ≠ "own" → (∀ q ∈ items, ItL (tv (csem (m + 1) .f__law_marks)) (encRsT rs) q) → ∀ (k : Nat) (t : T) (g : List Mk), items[k]? = some (t, g) → ∀ (f : List Mk) (z4 z6 : Option T), f.length ≤ 100000 → ∃ z4' z6', lmBody (tv (csem (m + 1) .f__law_marks)) [some (encRsT rs), some (.tup (.str w :: ts)), some (lm f), some t, z4, some (.int ((0 + k : Nat) : Int)), z6] = .ok (.nx [some (encRsT rs), some (.tup (.str w :: ts)), some (lm (f ++ g)), some t, z4', some (.int ((0 + k : Nat) : Int)), z6']) :=
      fun hw hi k t g hk f z4 z6 hf => (hi _ (List.mem_of_getElem? hk)).step hw hf
    have itp : ∀ (q : Deed) {K' : List Str}, dep q ≤ k → okD (szs (rs.take j)) K' q → ItL (tv (csem (m + 1) .f__law_marks)) (encRsT rs) (encT q, mkD (rmk rs) q) := fun q K' h1 h2 => .inr ⟨q, rfl, part q (m + 1) h1 h2 (by omega)⟩
    cases d with
    | num i => exact ih _ _ (by omega) (by simp [dep]) ho2 (by omega)
    | nam x => exact ih _ _ (by omega) (by simp [dep]) ho2 (by omega)
    | dod x => exact ih _ _ (by omega) (by simp [dep]) ho2 (by omega)
    | ask => exact ih _ _ (by omega) (by simp [dep]) ho2 (by omega)
    | rd x => exact ih _ _ (by omega) (by simp [dep]) ho2 (by omega)
    | wr x a =>
      simp only [dep] at hd
      simp only [okD] at ho2
      have e : mkD (rmk rs) (.wr x a) = rise tLt ([mW x] ++ ([(T.str "write", []), (.str x, []), (encT a, mkD (rmk rs) a)].map (·.2)).flatten) := by simp [mkD]
      have i1 := itp a (by omega) ho2.2
      refine body (by unfold ct_f__law_marks; rfl) (t_skip rfl (hdL (b1 := true) (b2 := false) (b3 := false) rfl (qEq_not fin fask (by simp [encT])) rfl ?_))
      rw [e]
      exact tlL (f := [mW x]) rfl (steps wordsO.2.2.2.2.2.1 (by simp [ItL.str, i1])) (by simp [i1.len]) (by simp) (all e)
    | say a =>
      simp only [dep] at hd
      simp only [okD] at ho2
      have e : mkD (rmk rs) (.say a) = rise tLt ([mS] ++ ([(T.str "say", []), (encT a, mkD (rmk rs) a)].map (·.2)).flatten) := by simp [mkD]
      have i1 := itp a (by omega) ho2
      refine body (by unfold ct_f__law_marks; rfl) (t_skip rfl (hdL (b1 := false) (b2 := false) (b3 := true) rfl (qEq_not fin fask (by simp [encT])) rfl ?_))
      rw [e]
      exact tlL (f := [mS]) rfl (steps wordsO.2.2.2.2.2.2.1 (by simp [ItL.str, i1])) (by simp [i1.len]) (by simp) (all e)
    | lt x a b =>
      simp only [dep] at hd
      simp only [okD] at ho2
      have e : mkD (rmk rs) (.lt x a b) = rise tLt ([] ++ ([(T.str "let", []), (.str x, []), (encT a, mkD (rmk rs) a), (encT b, mkD (rmk rs) b)].map (·.2)).flatten) := by simp [mkD]
      have i1 := itp a (by omega) ho2.2.1
      have i2 := itp b (by omega) ho2.2.2
      refine body (by unfold ct_f__law_marks; rfl) (t_skip rfl (hdL (b1 := false) (b2 := false) (b3 := false) rfl (qEq_not fin fask (by simp [encT])) rfl ?_))
      rw [e]
      exact tlL (f := []) rfl (steps wordsO.2.2.2.2.2.2.2.1 (by simp [ItL.str, i1, i2])) (by simp [i1.len, i2.len]) (by simp) (all e)
    | iff a b c =>
      simp only [dep] at hd
      simp only [okD] at ho2
      have e : mkD (rmk rs) (.iff a b c) = rise tLt ([] ++ ([(T.str "if", []), (encT a, mkD (rmk rs) a), (encT b, mkD (rmk rs) b), (encT c, mkD (rmk rs) c)].map (·.2)).flatten) := by simp [mkD]
      have i1 := itp a (by omega) ho2.1
      have i2 := itp b (by omega) ho2.2.1
      have i3 := itp c (by omega) ho2.2.2
      refine body (by unfold ct_f__law_marks; rfl) (t_skip rfl (hdL (b1 := false) (b2 := false) (b3 := false) rfl (qEq_not fin fask (by simp [encT])) rfl ?_))
      rw [e]
      exact tlL (f := []) rfl (steps wordsO.2.2.2.2.2.2.2.2.1 (by simp [ItL.str, i1, i2, i3])) (by simp [i1.len, i2.len, i3.len]) (by simp) (all e)
    | two w a b =>
      simp only [dep] at hd
      simp only [okD] at ho2
      have e : mkD (rmk rs) (.two w a b) = rise tLt ([] ++ ([(T.str w.w, []), (encT a, mkD (rmk rs) a), (encT b, mkD (rmk rs) b)].map (·.2)).flatten) := by simp [mkD]
      have i1 := itp a (by omega) ho2.1
      have i2 := itp b (by omega) ho2.2
      refine body (by unfold ct_f__law_marks; rfl) (t_skip (by cases w <;> rfl) (hdL (b1 := false) (b2 := false) (b3 := false) (by cases w <;> rfl) (qEq_not fin fask (by simp [encT])) (by cases w <;> rfl) ?_))
      rw [e]
      exact tlL (f := []) rfl (steps (wordsO.2.2.2.2.2.2.2.2.2 w) (by simp [ItL.str, i1, i2])) (by simp [i1.len, i2.len]) (by simp) (all e)
    | own x a b =>
      simp only [dep] at hd
      simp only [okD] at ho2
      obtain ⟨a1, a2⟩ := part a (m + 1) (by omega) ho2.2.1 (by omega)
      obtain ⟨b1, b2⟩ := part b (m + 1) (by omega) ho2.2.2 (by omega)
      have okb := mk_ok (okMR_of rs ho) (fun i r h => ⟨(ho i r h).n, (ho i r h).h⟩) (dep b) b (Nat.le_refl _) (okD_take ho2.2.2)
      have eno := mem_noOwn ho2.1 okb
      have lno : (noOwn x (mkD (rmk rs) b)).length ≤ 17 := Nat.le_trans (List.length_filter_le _ _) b2
      have e : mkD (rmk rs) (.own x a b) = rise tLt ([] ++ ([(T.str "own", []), (.str x, []), (encT a, mkD (rmk rs) a), (encT b, noOwn x (mkD (rmk rs) b))].map (·.2)).flatten) := by simp [mkD, eno]
      refine body (by unfold ct_f__law_marks; rfl) (t_skip rfl (hdL (b1 := false) (b2 := false) (b3 := false) rfl (qEq_not fin fask (by simp [encT])) rfl ?_))
      rw [e]
      refine tlL (f := []) rfl (fun k t g hk f z4 z6 hf => ?_) (by simp [a2, lno]) (by simp) (all e)
      match k, hk with
      | 0, hk => cases hk; exact ⟨z4, z6, by rw [List.append_nil]; exact lm_skip (okTop_str _) rfl⟩
      | 1, hk => cases hk; exact ⟨z4, z6, by rw [List.append_nil]; exact lm_skip (okTop_str _) rfl⟩
      | 2, hk => cases hk; exact ⟨_, _, lm_part (k := 2) a1 (by omega) (.inr (by decide))⟩
      | 3, hk => cases hk; exact ⟨_, _, lm_own b1 b2 (by omega) (sok_kd (by rw [ho2.1]; decide)) (mk_in ho (okD_take ho2.2.2))⟩
      | k + 4, hk => simp at hk
    | call i ps hs =>
      simp only [dep] at hd
      simp only [okD] at ho2
      obtain ⟨r, hr, es⟩ : ∃ r, (rs.take j)[i]? = some r ∧ (r.ns.length, r.hs.length) = (ps.length, hs.length) := by
        have z := ho2.1
        unfold szs at z
        rw [List.getElem?_map] at z
        exact Option.map_eq_some_iff.mp z
      injection es with es1 es2
      have hij : i < j ∧ rs[i]? = some r := by
        rw [List.getElem?_take] at hr
        split at hr
        · exact ⟨‹_›, hr⟩
        · cases hr
      obtain ⟨l1, l2⟩ := hsz r (List.mem_of_getElem? hij.2)
      have ra := rmk_at rs i r ho hij.2
      have rok := ho i r hij.2
      have rb : okD (szs rs) (r.ns ++ r.hs) r.b := okD_take rok.b
      have e0 : encT (.call i ps hs) = .tup [.str "call", .int i, .tup (ps.map encT), .tup (hs.map encT)] := by rw [encT, encTs_map, encTs_map]
      have li := (List.getElem?_eq_some_iff.mp hij.2).1
      have g0 : qGet (encRsT rs) (.int (i : Nat)) = .ok (encRT r) := by
        unfold encRsT
        rw [q_getT, L2atI (by simpa using li), List.getElem?_map, hij.2]
        rfl
      have hps : ∀ p ∈ ps, tv (csem (m + 1) .f__law_marks) [encRsT rs, encT p] = .ok (lm (mkD (rmk rs) p)) ∧ (mkD (rmk rs) p).length ≤ 17 := fun p hp => by
        have := dep_in hp
        exact part p _ (by omega) (okDs_iff.mp ho2.2.1 p hp) (by omega)
      have hhs : ∀ p ∈ hs, tv (csem (m + 1) .f__law_marks) [encRsT rs, encT p] = .ok (lm (mkD (rmk rs) p)) ∧ (mkD (rmk rs) p).length ≤ 17 := fun p hp => by
        have := dep_in hp
        exact part p _ (by omega) (okDs_iff.mp ho2.2.2 p hp) (by omega)
      have hb := hB i r hij.2 hij.1 (m + 1) (by omega)
      have hb2 := mk_len ho rb
      have hM := mk_ok (okMR_of rs ho) (fun i r h => ⟨(ho i r h).n, (ho i r h).h⟩) (dep r.b) r.b (Nat.le_refl _) rb
      refine body (by unfold ct_f__law_marks; rfl) ?_
      have em : mkD (rmk rs) (.call i ps hs) = rise tLt ([] ++ (ps.map (mkD (rmk rs))).flatten ++ (mkD (rmk rs) r.b).flatMap (atCall r.hs (hs.map (mkD (rmk rs))))) := by
        rw [mkD, mkDs_map, mkDs_map, ra, List.nil_append]
      rw [em, e0]
      generalize hDD : T.tup [T.str "call", .int i, .tup (ps.map encT), .tup (hs.map encT)] = DD
      have d0 : qGet DD (.int 0) = .ok (.str "call") := by rw [← hDD]; simp
      have d1 : qGet DD (.int 1) = .ok (.int (i : Nat)) := by rw [← hDD]; simp
      have d2 : qGet DD (.int 2) = .ok (.tup (ps.map encT)) := by rw [← hDD]; simp
      have d3 : qGet DD (.int 3) = .ok (.tup (hs.map encT)) := by rw [← hDD]; simp
      have hrl : ∀ (y2 y3 y4 y5 y6 : Option T), lRule [some (encRsT rs), some DD, y2, y3, y4, y5, y6] = .ok (encRT r) := fun y2 y3 y4 y5 y6 => by
        unfold lRule
        rw [te_bin, te_bin, te_V (t := encRsT rs) rfl, te_V (t := DD) rfl, te_C, RT.bind_ok, RT.bind_ok, RT.bind_ok, d1, RT.bind_ok, g0]
      refine t_seqR (t_if (b := true) ?_ ?_)
      · rw [te_test, te_bin, te_bin, te_V (t := DD) rfl, te_C, RT.bind_ok, RT.bind_ok, d0, RT.bind_ok, te_C, RT.bind_ok, q_eqS, RT.bind_ok, asB_bl]
        simp
      rw [if_pos rfl]
      refine t_asg (t := lm []) rfl rfl ?_
      simp only [List.set_cons_succ, List.set_cons_zero]
      obtain ⟨z3, e1⟩ := largs_loop (F := tv (csem (m + 1) .f__law_marks)) (R := encRsT rs) (mk := mkD (rmk rs)) ps [] (some DD) none none none none hps (by simp; omega)
      have i1 : tiAny (tBin qGet (tVar 1) (tC (.int 2))) [some (encRsT rs), some DD, some (lm []), none, none, none, none] = .ok (ps.map encT) :=
        ti_any (l := .tup (ps.map encT)) (by rw [te_bin, te_V (t := DD) rfl, te_C, RT.bind_ok, RT.bind_ok, d2]) (.inr (.inl rfl))
      refine t_seq (t_for i1 e1) ?_
      have fl := flat_len (ls := ps.map (mkD (rmk rs))) fun l hl => by
        obtain ⟨p, hp, rfl⟩ := List.mem_map.mp hl
        exact (hps p hp).2
      rw [List.length_map] at fl
      obtain ⟨z4, e2⟩ := lmarks_loop (F := tv (csem (m + 1) .f__law_marks)) (R := encRsT rs) (D := DD) (r := r) (hd := hs) (mk := mkD (rmk rs)) hhs d3 es2 hrl (mkD (rmk rs) r.b) ([] ++ (ps.map (mkD (rmk rs))).flatten) z3 none none none (fun q hq => by
        rcases hM q hq with h | h | ⟨x, _, h⟩ | ⟨x, hx, kx, h⟩
        · exact .inl h
        · exact .inr (.inl h)
        · exact .inr (.inr (.inl ⟨x, h⟩))
        · refine .inr (.inr (.inr ⟨x, ?_, h⟩))
          rcases List.mem_append.mp hx with hx | hx
          · have := rok.n x hx; omega
          · exact hx) (by rw [List.nil_append]; omega)
      have i2 : tiAny (tCall 2 (tv (csem (m + 1) .f__law_marks)) (tCons (tVar 0) (tCons (tBin qGet lRule (tC (.int 2))) tNil))) [some (encRsT rs), some DD, some (lm ([] ++ (ps.map (mkD (rmk rs))).flatten)), z3, none, none, none] = .ok ((mkD (rmk rs) r.b).map unX) := by
        refine ti_any (l := lm (mkD (rmk rs) r.b)) ?_ (.inl rfl)
        have a2 : tBin qGet lRule (tC (.int 2)) [some (encRsT rs), some DD, some (lm ([] ++ (ps.map (mkD (rmk rs))).flatten)), z3, none, none, none] = .ok (encT r.b) := by
          rw [te_bin, hrl, RT.bind_ok, te_C, RT.bind_ok]
          simp [encRT]
        rw [te_call, te_cons, te_cons, te_nil, te_V (t := encRsT rs) rfl, RT.bind_ok, a2]
        exact hb
      refine t_seq (t_for i2 e2) (t_ret ?_)
      show ((tVar 2) _).bind qSS = _
      rw [te_V (t := lm ([] ++ (ps.map (mkD (rmk rs))).flatten ++ (mkD (rmk rs) r.b).flatMap (atCall r.hs (hs.map (mkD (rmk rs)))))) rfl, RT.bind_ok]
      exact qSS_marks (all em)
end
end DL

set_option Elab.async false
set_option linter.all false
set_option maxRecDepth 100000
set_option maxHeartbeats 1000000
namespace DL
open PySem
open KS (rise tLt ord_tup mem_rise Rising)
theorem num_len : ∀ {ts : List T} {k : Nat}, (numT k ts).length = ts.length
  | [], _ => rfl
  | _ :: ts, k => by rw [numT, List.length_cons, num_len, List.length_cons]
theorem num_at : ∀ {ts : List T} {k i : Nat} {t : T}, (numT k ts)[i]? = some t → ∃ u, ts[i]? = some u ∧ t = .tup [.int ((k + i : Nat) : Int), u]
  | [], _, _, _, h => by simp [numT] at h
  | u :: ts, k, 0, t, h => by
    simp [numT] at h
    exact ⟨u, rfl, by rw [← h]; rfl⟩
  | u :: ts, k, i + 1, t, h => by
    obtain ⟨v, h1, h2⟩ := num_at (ts := ts) (k := k + 1) (i := i) (t := t) (by simpa [numT] using h)
    exact ⟨v, by simpa using h1, by rw [h2, show k + 1 + i = k + (i + 1) by omega]⟩
section
variable {rs : List Rule}
theorem rules_lmarks (R : RsLaw rs) : ∀ (i : Nat) (r : Rule), rs[i]? = some r → ∀ n, i * 8 + 8 ≤ n → tv (csem n .f__law_marks) [encRsT rs, encT r.b] = .ok (lm (mkD (rmk rs) r.b)) := by
  have hl := R.len
  intro i
  induction i using Nat.strongRecOn with
  | _ i ih =>
    intro r hr n hn
    exact deed_lmarks (j := i) (B := i * 8) R.r.ok (by omega) (fun r h => by have := R.sz r h; omega) (fun i' r' hr' hi n' hn' => ih i' hi r' hr' n' (by omega)) 2 r.b n (by omega) (R.dep r (List.mem_of_getElem? hr)) (R.r.ok i r hr).b (by omega)
theorem lmarks_T (R : RsLaw rs) {d : Deed} {K : List Str} (hd : okD (szs rs) K d) (h15 : dep d ≤ 15) {n : Nat} (hn : dep d + 30 ≤ n) : tv (csem n .f__law_marks) [encRsT rs, encT d] = .ok (lm (mkD (rmk rs) d)) := by
  have hl := R.len
  exact deed_lmarks (j := rs.length) (B := 16) R.r.ok (by omega) (fun r h => by have := R.sz r h; omega) (fun i r hr hi n' hn' => rules_lmarks R i r hr n' (by omega)) (dep d) d n h15 (Nat.le_refl _) (by rw [List.take_length]; exact hd) (by omega)
theorem fine_lm {l : List Mk} (h : ∀ m ∈ l, m ∈ allM) : Fine (lm l) := .lst (k := 37) (.all fun t ht => by
  obtain ⟨m, hm, rfl⟩ := List.mem_map.mp ht
  exact fine_mark (h m hm) 36)
theorem fine_strs {l : List Str} (h : ∀ x ∈ l, sok x = true) : Fine (.lst (l.map T.str)) := .lst (k := 37) (.all fun t ht => by
  obtain ⟨m, hm, rfl⟩ := List.mem_map.mp ht
  exact .str 37 (h m hm))
end
end DL

set_option Elab.async false
set_option linter.all false
set_option maxRecDepth 100000
set_option maxHeartbeats 1000000
namespace DL
open PySem
open KS (rise tLt sLt ord_tup ord_str mem_rise Rising rising_rise rising_one)
theorem mem_shOf {w : Str} {l : List Mk} {x : Str} (h2 : ∀ m ∈ l, m ∈ allM) (hw : w = "read" ∨ w = "write") : x ∈ shOf w l ↔ [w, x] ∈ l := by
  unfold shOf
  rw [List.mem_map]
  constructor
  · rintro ⟨m, hm, rfl⟩
    obtain ⟨h, e⟩ := List.mem_filter.mp hm
    have e := of_decide_eq_true e
    have a := h2 m h
    unfold allM at a
    simp only [List.mem_append, List.mem_cons, List.not_mem_nil, or_false, List.mem_flatMap, List.mem_map] at a
    rcases a with (((rfl | rfl)) | ⟨y, _, rfl | rfl⟩) | ⟨y, _, rfl⟩
    · exfalso; rcases hw with rfl | rfl <;> exact absurd e (by decide +kernel)
    · exfalso; rcases hw with rfl | rfl <;> exact absurd e (by decide +kernel)
    · have : ("read" : Str) = w := e
      subst this; exact h
    · have : ("write" : Str) = w := e
      subst this; exact h
    · exfalso
      have : ("do" : Str) = w := e
      rcases hw with rfl | rfl <;> exact absurd this (by decide +kernel)
  · intro h
    exact ⟨[w, x], List.mem_filter.mpr ⟨h, decide_eq_true rfl⟩, rfl⟩
theorem two_form {w : Str} (hw : w = "read" ∨ w = "write") : ∀ m ∈ allM, m.headD ("" : Str) = w → m = [w, m.getD 1 ("" : Str)] := by
  rcases hw with rfl | rfl <;> decide +kernel
theorem qSS_strs {l : List Str} (h : (rise sLt l).length < 64) : qSS (.lst (l.map T.str)) = .ok (.lst ((rise sLt l).map T.str)) := by
  unfold qSS
  cases l with
  | nil => rfl
  | cons x l =>
    have e1 : sSSk keyXT tLt unX (.lst ((x :: l).map T.str)) = .bad := by
      unfold sSSk
      simp [litsT, fall, keyXT]
    rw [e1]
    have e2 : sSSk strX sLt T.str (.lst ((x :: l).map T.str)) = .ok (.lst ((rise sLt (x :: l)).map T.str)) := by
      unfold sSSk
      have e3 : litsT (T.lst ((x :: l).map T.str)) = some ((x :: l).map T.str) := rfl
      simp only [e3, fall_strX]
      rw [if_pos h]
    rw [e2]
theorem ne_T {p q : TDen} {τ : TEnv} {a b : T} (hp : p τ = .ok a) (hq : q τ = .ok b) (e : a = b) (h : Fine a) : tTest (tBin qNe p q) τ = .ok false := by
  subst e
  rw [te_test, te_bin, hp, hq, RT.bind_ok, RT.bind_ok, qNe_same h rfl]
  rfl
theorem ne_st {p q : TDen} {τ : TEnv} {a b : List Str} (hp : p τ = .ok (.lst (a.map T.str))) (hq : q τ = .ok (.lst (b.map T.str))) (e : a = b) (h : ∀ m ∈ a, sok m = true) : tTest (tBin qNe p q) τ = .ok false := ne_T hp hq (by rw [e]) (fine_strs h)
theorem or_f {c d : TDenB} {τ : TEnv} (h : c τ = .ok false) (k : d τ = .ok false) : tbOr c d τ = .ok false := by rw [te_or, h, RT.bind_ok, if_neg (by decide), k]
theorem ss_st {p : TDen} {τ : TEnv} {a : List Str} (hp : p τ = .ok (.lst (a.map T.str))) (h : (rise sLt a).length < 64) : tSS p τ = .ok (.lst ((rise sLt a).map T.str)) := by
  unfold tSS
  rw [hp, RT.bind_ok]
  exact qSS_strs h
section
variable {rs : List Rule}
structure RsM (rs : List Rule) : Prop where
  ok : okRs rs
  len : rs.length ≤ 4
  sz : ∀ r ∈ rs, r.ns.length ≤ 100 ∧ r.hs.length ≤ 100
  dep : ∀ r ∈ rs, dep r.b ≤ 3
theorem RsLaw.m (R : RsLaw rs) : RsM rs := ⟨R.r.ok, by have := R.len; omega, fun r h => by have := R.sz r h; omega, fun r h => by have := R.dep r h; omega⟩
theorem marks_G (R : RsM rs) {d : Deed} {K : List Str} (hd : okD (szs rs) K d) {n : Nat} (hn : 3 * dep d + 70 ≤ n) : tv (csem n .f_marks_of) [encRsT rs, encT d] = .ok (lm (mkD (rmk rs) d)) := by
  have hl := R.len
  refine deed_marks (j := rs.length) (B := 60) R.ok (by omega) R.sz (fun i r hr hi n' hn' => rules_marks R.ok (by omega) R.sz R.dep i r hr n' (by omega)) (dep d) d n (Nat.le_refl _) (by rw [List.take_length]; exact hd) (by omega)
theorem touches_G (R : RsM rs) {d : Deed} {K : List Str} (hd : okD (szs rs) K d) {n : Nat} (hn : 3 * dep d + 72 ≤ n) : tv (csem n .f_touches) [encRsT rs, encT d] = .ok (lm (mkD (rmk rs) d)) := by
  obtain ⟨m, rfl⟩ : ∃ m, n = m + 2 := ⟨n - 2, by omega⟩
  refine cq_f_touches (t_run rfl (t_ret ?_)) (by simp)
  simp [marks_G R hd (n := m + 1) (by omega)]
theorem mk_okK (ho : okRs rs) {d : Deed} {K : List Str} (hd : okD (szs rs) K d) : ∀ m ∈ mkD (rmk rs) d, okM K m := mk_ok (okMR_of rs ho) (fun i r hr => ⟨(ho i r hr).n, (ho i r hr).h⟩) (dep d) d (Nat.le_refl _) hd
theorem shOf_abcd (ho : okRs rs) {d : Deed} (hd : okD (szs rs) [] d) {w : Str} (hw : w = "read" ∨ w = "write") : ∀ x ∈ shOf w (mkD (rmk rs) d), x ∈ abcd := fun x hx => by
  have := mk_okK ho hd _ ((mem_shOf (mk_in ho hd) hw).mp hx)
  rcases this with e | e | ⟨y, hy, e | e⟩ | ⟨y, hy, _⟩
  · simp [mS] at e
  · simp [mA] at e
  · simp [mR] at e
    rcases hy with ⟨h, _⟩ | h
    · cases h
    · rw [e.2]; exact h
  · simp [mW] at e
    rcases hy with ⟨h, _⟩ | h
    · cases h
    · rw [e.2]; exact h
  · cases hy
end
end DL

set_option Elab.async false
set_option linter.all false
set_option maxRecDepth 100000
set_option maxHeartbeats 1000000
namespace DL
open PySem
open KS (rise tLt ord_tup mem_rise)
def Good (A : Mk → Prop) (pe : PEn) (m : Mk) : Prop :=
  (m = mS → A mS) ∧ (m = mA → A mA) ∧ (∀ x ∈ abcd, m = mR x → A (mR x)) ∧ (∀ x ∈ abcd, m = mW x → A (mW x)) ∧ ∀ x t, m = mD x → pe x = some (.th t) → ∀ c, (t c).In A
structure PeK (pe : PEn) (K : List Str) : Prop where
  cell : ∀ x ∈ K, kd x = 2 → ∃ i, pe x = some (.cell i)
  off : ∀ x ∈ abcd, pe x = none
theorem PeK.put {pe : PEn} {K : List Str} (h : PeK pe K) {x : Str} {v : PEV} (hx : kd x ≠ 0) (hv : kd x = 2 → ∃ i, v = .cell i) : PeK (putP x v pe) (x :: K) := by
  refine ⟨fun y hy k2 => ?_, fun y hy => ?_⟩
  · unfold putP
    by_cases e : y = x
    · rw [if_pos e]
      subst e
      obtain ⟨i, rfl⟩ := hv k2
      exact ⟨i, rfl⟩
    · rw [if_neg e]
      rcases List.mem_cons.mp hy with q | q
      · exact absurd q e
      · exact h.cell y q k2
  · unfold putP
    rw [if_neg fun e => hx (by rw [← e]; exact kd0_abcd y hy)]
    exact h.off y hy
theorem Good.put {A : Mk → Prop} {pe : PEn} {m : Mk} (h : Good A pe m) {x : Str} {v : PEV} (hv : ∀ t, v ≠ .th t) : Good A (putP x v pe) m := by
  obtain ⟨h1, h2, h3, h4, h5⟩ := h
  refine ⟨h1, h2, h3, h4, fun y t e q => ?_⟩
  unfold putP at q
  split at q
  · cases q; exact absurd rfl (hv t)
  · exact h5 y t e q
section
end
end DL

set_option Elab.async false
set_option linter.all false
set_option maxRecDepth 100000
set_option maxHeartbeats 1000000
namespace DL
open PySem
open KS (rise tLt ord_tup mem_rise)
def mdT : Tch × Int → D
  | (.ask, v) => markA v | (.read x, v) => markR x v | (.wrt x _, v) => markW x v | (.say _, v) => markS v
def wOf (x : Str) : List (Tch × Int) → Option Int
  | [] => none
  | q :: r => match wOf x r with
    | some v => some v
    | none => match q.1 with
      | .wrt y v => if x = y then some v else none
      | _ => none
def saidOf : List (Tch × Int) → List Int
  | [] => []
  | q :: r => (match q.1 with
    | .say v => [v]
    | _ => []) ++ saidOf r
def nAsk : List (Tch × Int) → Nat
  | [] => 0
  | q :: r => (match q.1 with
    | .ask => 1
    | _ => 0) + nAsk r
def app (ms : List (Tch × Int)) (s : Stt) : Stt := ⟨fun x => (wOf x ms).getD (s.kept x), s.asked, s.many + nAsk ms, s.spoken ++ saidOf ms, s.marks ++ ms.map mdT, s.cells⟩
def Pg.tl {α : Type} : Pg α → Stt → List (Tch × Int)
  | .ret _, _ => []
  | .act m k, s => (m, (actT m s).1) :: (k (actT m s).1).tl (actT m s).2
structure Agr (A : Mk → Prop) (s t : Stt) : Prop where
  rd : ∀ x, A (mR x) → s.kept x = t.kept x
  ak : A mA → ∀ k, aw s.asked (s.many + k) = aw t.asked (t.many + k)
theorem Agr.act {A : Mk → Prop} {s t : Stt} (h : Agr A s t) {m : Tch} (hm : A (mkT m)) : (actT m s).1 = (actT m t).1 ∧ Agr A (actT m s).2 (actT m t).2 := by
  cases m with
  | ask =>
    refine ⟨h.ak hm 0, h.rd, fun a k => ?_⟩
    have := h.ak a (1 + k)
    rw [← Nat.add_assoc, ← Nat.add_assoc] at this
    exact this
  | read x => exact ⟨h.rd x hm, h.rd, h.ak⟩
  | wrt x v =>
    refine ⟨rfl, fun y hy => ?_, h.ak⟩
    show (if y = x then v else s.kept y) = if y = x then v else t.kept y
    rw [h.rd y hy]
  | say v => exact ⟨rfl, h.rd, h.ak⟩
theorem Agr.go {α : Type} {A : Mk → Prop} : ∀ {p : Pg α} {s t : Stt}, p.In A → Agr A s t → (p.go s).1 = (p.go t).1 ∧ p.tl s = p.tl t
  | .ret _, s, t, _, _ => ⟨rfl, rfl⟩
  | .act m k, s, t, h, g => by
    obtain ⟨e, g2⟩ := g.act h.1
    obtain ⟨i1, i2⟩ := Agr.go (p := k (actT m s).1) (h.2 _) g2
    show ((k (actT m s).1).go (actT m s).2).1 = ((k (actT m t).1).go (actT m t).2).1 ∧ (m, (actT m s).1) :: _ = (m, (actT m t).1) :: _
    rw [← e]
    exact ⟨i1, by rw [i2]⟩
theorem wOf_some {x : Str} {v : Int} : ∀ {ms : List (Tch × Int)}, wOf x ms = some v → ∃ q ∈ ms, q.1 = .wrt x v
  | [], h => by simp [wOf] at h
  | q :: r, h => by
    simp only [wOf] at h
    cases e : wOf x r with
    | some u =>
      rw [e] at h
      cases h
      obtain ⟨z, hz, e⟩ := wOf_some e
      exact ⟨z, List.mem_cons_of_mem _ hz, e⟩
    | none =>
      rw [e] at h
      cases e2 : q.1 with
      | wrt y u =>
        rw [e2] at h
        by_cases q2 : x = y
        · subst q2
          simp at h
          exact ⟨q, List.mem_cons_self, by rw [e2, h]⟩
        · simp [q2] at h
      | ask => rw [e2] at h; cases h
      | read y => rw [e2] at h; cases h
      | say y => rw [e2] at h; cases h
section
variable {A B : Mk → Prop}
def Ins (A : Mk → Prop) (ms : List (Tch × Int)) : Prop := ∀ q ∈ ms, A (mkT q.1)
theorem Ins.w {ms : List (Tch × Int)} (h : Ins A ms) {x : Str} (hx : ¬ A (mW x)) : wOf x ms = none := by
  cases e : wOf x ms with
  | none => rfl
  | some v =>
    obtain ⟨q, hq, e2⟩ := wOf_some e
    have := h q hq
    rw [e2] at this
    exact absurd this hx
theorem Ins.s {ms : List (Tch × Int)} (h : Ins A ms) (hx : ¬ A mS) : saidOf ms = [] := by
  induction ms with
  | nil => rfl
  | cons q r ih =>
    have h1 := h q List.mem_cons_self
    unfold saidOf
    rw [ih fun z hz => h z (List.mem_cons_of_mem _ hz)]
    cases e : q.1 with
    | say v => rw [e] at h1; exact absurd h1 hx
    | ask => rfl
    | read y => rfl
    | wrt y u => rfl
theorem Ins.a {ms : List (Tch × Int)} (h : Ins A ms) (hx : ¬ A mA) : nAsk ms = 0 := by
  induction ms with
  | nil => rfl
  | cons q r ih =>
    have h1 := h q List.mem_cons_self
    unfold nAsk
    rw [ih fun z hz => h z (List.mem_cons_of_mem _ hz)]
    cases e : q.1 with
    | ask => rw [e] at h1; exact absurd h1 hx
    | say v => rfl
    | read y => rfl
    | wrt y u => rfl
def Stt.er (s : Stt) : Stt := ⟨s.kept, s.asked, s.many, s.spoken, [], []⟩
theorem er_ext {s t : Stt} (h1 : ∀ x, s.kept x = t.kept x) (h2 : s.asked = t.asked) (h3 : s.many = t.many) (h4 : s.spoken = t.spoken) : s.er = t.er := by
  unfold Stt.er
  rw [funext h1, h2, h3, h4]
structure Apt (A B : Mk → Prop) : Prop where
  w : ∀ x, A (mW x) → ¬ B (mR x) ∧ ¬ B (mW x)
  r : ∀ x, B (mW x) → ¬ A (mR x)
  s : ¬ (A mS ∧ B mS)
  a : ¬ (A mA ∧ B mA)
theorem Apt.symm (h : Apt A B) : Apt B A := ⟨fun x hb => ⟨h.r x hb, fun ha => (h.w x ha).2 hb⟩, fun x ha => (h.w x ha).1, fun q => h.s ⟨q.2, q.1⟩, fun q => h.a ⟨q.2, q.1⟩⟩
theorem Apt.swap (h : Apt A B) {ms ns : List (Tch × Int)} (hm : Ins A ms) (hn : Ins B ns) (s : Stt) : (app ns (app ms s)).er = (app ms (app ns s)).er := by
  refine er_ext (fun x => ?_) rfl ?_ ?_
  · simp only [app]
    by_cases ha : A (mW x)
    · have : wOf x ns = none := hn.w (h.w x ha).2
      simp only [this, Option.getD_none]
    · have : wOf x ms = none := hm.w ha
      simp only [this, Option.getD_none]
  · simp only [app]; omega
  · simp only [app]
    by_cases ha : A mS
    · have : saidOf ns = [] := hn.s fun hb => h.s ⟨ha, hb⟩
      simp [this]
    · have : saidOf ms = [] := hm.s ha
      simp [this]
variable {α β : Type} {p : Pg α} {q : Pg β}
end
end DL

set_option Elab.async false
set_option linter.all false
set_option maxRecDepth 100000
set_option maxHeartbeats 1000000
namespace DL
open PySem
open KS (rise tLt sLt ord_tup ord_str mem_rise Rising rising_rise)
def metM (m : Mk) (ys : List Mk) : Bool :=
  if m.headD ("" : Str) = ("say" : Str) ∨ m.headD ("" : Str) = ("ask" : Str) then decide (m ∈ ys)
  else if m.headD ("" : Str) = ("write" : Str) then decide (mR (m.getD 1 ("" : Str)) ∈ ys) || decide (mW (m.getD 1 ("" : Str)) ∈ ys)
  else decide (mW (m.getD 1 ("" : Str)) ∈ ys)
theorem mem_unX {m : Mk} {ys : List Mk} : unX m ∈ ys.map unX ↔ m ∈ ys := by
  constructor
  · intro h
    obtain ⟨y, hy, e⟩ := List.mem_map.mp h
    rw [← unX_inj e]; exact hy
  · exact List.mem_map_of_mem
theorem fineL_lm {ys : List Mk} (hy : ∀ m ∈ ys, m ∈ allM) : FineL 37 (ys.map unX) := .all fun t ht => by
  obtain ⟨m, hm, rfl⟩ := List.mem_map.mp ht
  exact fine_mark (hy m hm) 36
theorem qIn_lm {m : Mk} {ys : List Mk} (hm : ∀ x ∈ m, sok x = true) (hy : ∀ m ∈ ys, m ∈ allM) : qIn (unX m) (lm ys) = .ok (.bl (decide (m ∈ ys))) := by
  have fm : FineK 38 (unX m) := .tup (k := 37) (.all fun t ht => by
    obtain ⟨x, hx, rfl⟩ := List.mem_map.mp ht
    exact .str 37 (hm x hx))
  unfold lm
  rw [qIn_fine fm (fineL_lm hy) (.inl rfl)]
  congr 2
  exact decide_eq_decide.mpr mem_unX
theorem qNotIn_lm {m : Mk} {ys : List Mk} (hm : ∀ x ∈ m, sok x = true) (hy : ∀ m ∈ ys, m ∈ allM) : qNotIn (unX m) (lm ys) = .ok (.bl (!decide (m ∈ ys))) := by
  have fm : FineK 38 (unX m) := .tup (k := 37) (.all fun t ht => by
    obtain ⟨x, hx, rfl⟩ := List.mem_map.mp ht
    exact .str 37 (hm x hx))
  unfold lm
  rw [qNotIn_fine fm (fineL_lm hy) (.inl rfl)]
  congr 3
  exact decide_eq_decide.mpr mem_unX
theorem sok_all2 : ∀ m ∈ allM, sok (m.getD 1 ("" : Str)) = true := by decide +kernel
theorem sok_rw : sok ("read" : Str) = true ∧ sok ("write" : Str) = true ∧ sok ("say" : Str) = true ∧ sok ("ask" : Str) = true ∧ sok ("do" : Str) = true := by decide +kernel
theorem sok_mR {x : Str} (h : sok x = true) : ∀ y ∈ mR x, sok y = true := by simp [mR, h, sok_rw]
theorem sok_mW {x : Str} (h : sok x = true) : ∀ y ∈ mW x, sok y = true := by simp [mW, h, sok_rw]
theorem met_T {m : Mk} {ys : List Mk} (hm : m ∈ allM) (hy : ∀ m ∈ ys, m ∈ allM) {n : Nat} (hn : 2 ≤ n) : tv (csem n .f_is_met) [unX m, lm ys] = .ok (.bl (metM m ys)) := by
  obtain ⟨k, rfl⟩ : ∃ k, n = k + 2 := ⟨n - 2, by omega⟩
  have i0 := qIn_lm (sok_all m hm) hy
  have s2 := sok_all2 m hm
  have i1 := qIn_lm (sok_mR s2) hy
  have i2 := qIn_lm (sok_mW s2) hy
  refine cq_f_is_met (t_run rfl ?_) (by simp)
  unfold ct_f_is_met
  have hd := unX_head (allM_ne m hm)
  show tsSeq _ _ [some (unX m), some (lm ys)] = _
  have sy : (∃ y, m = [y] ∧ (y = "say" ∨ y = "ask")) ∨ (∃ x, m = mW x) ∨ ∃ w x, m = [w, x] ∧ (w = "read" ∨ w = "do") := by
    unfold allM at hm
    simp only [List.mem_append, List.mem_cons, List.not_mem_nil, or_false, List.mem_flatMap, List.mem_map] at hm
    rcases hm with (((rfl | rfl)) | ⟨y, _, rfl | rfl⟩) | ⟨y, _, rfl⟩
    · exact .inl ⟨_, rfl, .inl rfl⟩
    · exact .inl ⟨_, rfl, .inr rfl⟩
    · exact .inr (.inr ⟨_, _, rfl, .inl rfl⟩)
    · exact .inr (.inl ⟨_, rfl⟩)
    · exact .inr (.inr ⟨_, _, rfl, .inr rfl⟩)
  rcases sy with ⟨y, rfl, rfl | rfl⟩ | ⟨x, rfl⟩ | ⟨w, x, rfl, rfl | rfl⟩
  · refine t_seqR (t_if (b := true) rfl ?_)
    rw [if_pos rfl]
    refine t_ret ?_
    rw [te_bin, te_V (t := unX [("say" : Str)]) rfl, te_V (t := lm ys) rfl, RT.bind_ok, RT.bind_ok, i0]
    rfl
  · refine t_seqR (t_if (b := true) rfl ?_)
    rw [if_pos rfl]
    refine t_ret ?_
    rw [te_bin, te_V (t := unX [("ask" : Str)]) rfl, te_V (t := lm ys) rfl, RT.bind_ok, RT.bind_ok, i0]
    rfl
  · refine t_skip rfl (t_seqR (t_if (b := true) rfl ?_))
    rw [if_pos rfl]
    refine t_ret ?_
    have e : metM (mW x) ys = (decide (mR x ∈ ys) || decide (mW x ∈ ys)) := rfl
    rw [e]
    have j1 : qIn (.tup [.str "read", .str x]) (lm ys) = _ := i1
    have j2 : qIn (.tup [.str "write", .str x]) (lm ys) = _ := i2
    have g1 : qGet (unX (mW x)) (.int 1) = .ok (.str x) := rfl
    have g2 : List.getD (mW x) 1 ("" : Str) = x := rfl
    rw [g2] at j1 j2
    simp only [tOrV, te_bin, te_tup, te_cons, te_nil, te_C]
    rw [te_V (t := unX (mW x)) rfl, te_V (t := lm ys) rfl]
    simp only [RT.bind_ok, g1, List.length_cons, List.length_nil, Nat.zero_add, Nat.reduceAdd, okB_2, if_true, j1, j2]
    cases decide (mR x ∈ ys) <;> rfl
  · refine t_skip rfl (t_skip rfl (t_ret ?_))
    have e : metM [("read" : Str), x] ys = decide (mW x ∈ ys) := rfl
    have j2 : qIn (.tup [.str "write", .str x]) (lm ys) = _ := i2
    have g1 : qGet (unX [("read" : Str), x]) (.int 1) = .ok (.str x) := rfl
    rw [e]
    simp [j2, g1]
  · refine t_skip rfl (t_skip rfl (t_ret ?_))
    have e : metM [("do" : Str), x] ys = decide (mW x ∈ ys) := rfl
    have j2 : qIn (.tup [.str "write", .str x]) (lm ys) = _ := i2
    have g1 : qGet (unX [("do" : Str), x]) (.int 1) = .ok (.str x) := rfl
    rw [e]
    simp [j2, g1]
def clashM (xs ys : List Mk) : List Str := rise sLt ((xs.filter fun m => metM m ys).map fun m => m.getLastD ("" : Str))
theorem last_sok : ∀ m ∈ allM, sok (m.getLastD ("" : Str)) = true := by decide +kernel
theorem last_q : ∀ m ∈ allM, qGet (unX m) (.int (-1)) = .ok (.str (m.getLastD ("" : Str))) := fun m h => by
  unfold allM at h
  simp only [List.mem_append, List.mem_cons, List.not_mem_nil, or_false, List.mem_flatMap, List.mem_map] at h
  rcases h with (((rfl | rfl)) | ⟨y, _, rfl | rfl⟩) | ⟨y, _, rfl⟩ <;> rfl
theorem last_few : ∀ m ∈ allM, m.getLastD ("" : Str) ∈ (["say", "ask", "p", "q", "a", "b", "c", "d", "f", "g1", "g"] : List Str) := by decide +kernel
theorem clash_few {xs ys : List Mk} (hx : ∀ m ∈ xs, m ∈ allM) : (clashM xs ys).length < 64 := by
  have := KS.nodup_len (clashM xs ys) _ (KS.rising_nodup ord_str (rising_rise ord_str _)) fun z hz => by
    have := (mem_rise ord_str).mp hz
    obtain ⟨m, hm, rfl⟩ := List.mem_map.mp this
    exact last_few m (hx m (List.mem_filter.mp hm).1)
  simp at this
  omega
theorem clash_sok {xs ys : List Mk} (hx : ∀ m ∈ xs, m ∈ allM) : ∀ z ∈ clashM xs ys, sok z = true := fun z hz => by
  have := (mem_rise ord_str).mp hz
  obtain ⟨m, hm, rfl⟩ := List.mem_map.mp this
  exact last_sok m (hx m (List.mem_filter.mp hm).1)
section
variable {rs : List Rule} (R : RsM rs) {d e : Deed} (hd : okD (szs rs) [] d) (he : okD (szs rs) [] e) (pd : dep d ≤ 9) (pe : dep e ≤ 9) {n : Nat}
include R hd he pd pe
theorem clash_T (hn : 110 ≤ n) : tv (csem n .f_clash) [encRsT rs, encT d, encT e] = .ok (.lst ((clashM (mkD (rmk rs) d) (mkD (rmk rs) e)).map T.str)) := by
  obtain ⟨m, rfl⟩ : ∃ m, n = m + 2 := ⟨n - 2, by omega⟩
  have h1 := touches_G R hd (n := m + 1) (by omega)
  have h2 := touches_G R he (n := m + 1) (by omega)
  have i1 := mk_in R.ok hd
  have i2 := mk_in R.ok he
  have l1 := mk_len R.ok hd
  generalize mkD (rmk rs) d = X at *
  generalize mkD (rmk rs) e = Y at *
  refine cq_f_clash (t_run rfl ?_) (by simp)
  unfold ct_f_clash
  refine t_asg (t := lm X) (by simp [h1]) rfl (t_asg (t := lm Y) (by simp [h2]) rfl (t_ret ?_))
  have c := t_lc (τ := [some (encRsT rs), some (encT d), some (encT e), some (lm X), some (lm Y), none]) (it := tiAny (tVar 3)) (g := hN 5) (c := tTest (tCall 2 (tv (csem (m + 1) .f_is_met)) (tCons (tVar 5) (tCons (tVar 4) tNil)))) (e := tBin qGet (tVar 5) (tNeg (tC (.int 1)))) (vs := [5])
    (l := X) (m := unX) (k := fun q => metM q Y) (f := fun q => T.str (q.getLastD ("" : Str))) (ti_any (l := lm X) rfl (.inl rfl)) (fun q hq => ⟨_, rfl, by
      have := met_T (n := m + 1) (i1 q hq) i2 (by omega)
      simp only [te_test, te_call, te_cons, te_nil, twipe, List.set_cons_succ, List.set_cons_zero]
      rw [te_V (t := unX q) rfl, te_V (t := lm Y) rfl]
      simp only [RT.bind_ok, List.length_cons, List.length_nil, Nat.zero_add, Nat.reduceAdd, if_true, this, asB_bl], fun _ => by
      have n1 : ∀ τ : TEnv, tNeg (tC (.int 1)) τ = .ok (.int (-1)) := fun τ => rfl
      simp only [te_bin, n1, twipe, List.set_cons_succ, List.set_cons_zero]
      rw [te_V (t := unX q) rfl, RT.bind_ok, RT.bind_ok, last_q q (i1 q hq)]⟩) (by omega)
  have hf : (rise sLt ((X.filter fun q => metM q Y).map fun q => q.getLastD ("" : Str))).length < 64 := clash_few (ys := Y) i1
  exact ss_st (by rw [List.map_map]; exact c) hf
theorem may_T (hn : 112 ≤ n) : tv (csem n .f_may_go) [encRsT rs, encT d, encT e] = .ok (.bl (decide (clashM (mkD (rmk rs) d) (mkD (rmk rs) e) = []))) := by
  obtain ⟨m, rfl⟩ : ∃ m, n = m + 2 := ⟨n - 2, by omega⟩
  have h1 := clash_T R hd he pd pe (n := m + 1) (by omega)
  have i1 := mk_in R.ok hd
  have hs := clash_sok (ys := mkD (rmk rs) e) i1
  refine cq_f_may_go (t_run rfl (t_ret ?_)) (by simp)
  generalize clashM (mkD (rmk rs) d) (mkD (rmk rs) e) = C at *
  simp [h1]
  rw [qEq_fine (fine_strs hs) (FineK.lst (k := 37) (.nil _))]
  congr 2
  classical
  exact decide_eq_decide.mpr ⟨fun h => by injection h with h; exact List.map_eq_nil_iff.mp h, fun h => by rw [h]; rfl⟩
end
theorem met_say (ys : List Mk) : metM mS ys = decide (mS ∈ ys) := rfl
theorem met_ask (ys : List Mk) : metM mA ys = decide (mA ∈ ys) := rfl
theorem met_rd (x : Str) (ys : List Mk) : metM (mR x) ys = decide (mW x ∈ ys) := rfl
theorem met_wr (x : Str) (ys : List Mk) : metM (mW x) ys = (decide (mR x ∈ ys) || decide (mW x ∈ ys)) := rfl
end DL

set_option Elab.async false
set_option linter.all false
set_option maxRecDepth 100000
set_option maxHeartbeats 1000000
namespace DL
open PySem
open KS (rise tLt sLt ord_tup ord_str mem_rise Rising rising_rise)
section
end
end DL

set_option Elab.async false
set_option linter.all false
set_option maxRecDepth 100000
set_option maxHeartbeats 1000000
namespace DL
open PySem
open KS (rise tLt sLt ord_tup ord_str mem_rise Rising rising_rise)
def MkB (zs : List Str) (sa aa : Bool) (m : Mk) : Prop := (m = mS ∧ sa = true) ∨ (m = mA ∧ aa = true) ∨ ∃ x ∈ zs, m = mR x ∨ m = mW x
structure Small (zs : List Str) (sa aa : Bool) (k w : Nat) (d : Deed) : Prop where
  ok : okD [] [] d
  dp : dep d ≤ k
  w1 : ∀ (rw : List RW) (hw : Str → Int), wt rw hw d ≤ (w : Int)
  w0 : ∀ (rw : List RW) (hw : Str → Int), 0 ≤ wt rw hw d
  mm : ∀ R, ∀ m ∈ mkD R d, MkB zs sa aa m
theorem Small.up {zs : List Str} {sa aa : Bool} {k k' w w' : Nat} {d : Deed} (h : Small zs sa aa k w d) (hk : k ≤ k') (hw : w ≤ w') : Small zs sa aa k' w' d := ⟨h.ok, Nat.le_trans h.dp hk, fun rw hw' => by have := h.w1 rw hw'; omega, h.w0, h.mm⟩
section
end
end DL

set_option Elab.async false
set_option linter.all false
set_option maxRecDepth 100000
set_option maxHeartbeats 1000000
namespace DL
open PySem
open KS (rise tLt sLt ord_tup ord_str mem_rise Rising rising_rise)
def Nx (I : TEnv → Prop) (x : RT TFl) : Prop := ∃ τ, x = .ok (.nx τ) ∧ I τ
theorem nx_eq {I : TEnv → Prop} {x y : RT TFl} (e : x = y) (h : Nx I y) : Nx I x := e ▸ h
theorem nx_end {I : TEnv → Prop} {x : RT TFl} {τ : TEnv} (e : x = .ok (.nx τ)) (h : I τ) : Nx I x := ⟨τ, e, h⟩
theorem nx_if {I : TEnv → Prop} {u v : TSDen} {c : TDenB} {τ : TEnv} {b : Bool} (hc : c τ = .ok b) (h : Nx I (if b = true then u τ else v τ)) : Nx I (tsIf c u v τ) := nx_eq (t_if hc rfl) h
def goesM (l : List Mk) : Bool := if mS ∈ l ∨ mA ∈ l then false else !((l.filter fun m => decide (m.headD ("" : Str) = ("write" : Str))).map fun m => decide (mR (m.getD 1 ("" : Str)) ∈ l)).any id
theorem goes_iff {l : List Mk} (h : ∀ m ∈ l, m ∈ allM) : goesM l = true ↔ mS ∉ l ∧ mA ∉ l ∧ ∀ x, mW x ∈ l → mR x ∉ l := by
  unfold goesM
  split
  · rename_i q
    constructor
    · intro e; cases e
    · rintro ⟨a, b, _⟩
      exact absurd q fun q => q.elim a b
  · rename_i q
    rw [Bool.not_eq_true', List.any_map]
    constructor
    · intro e
      refine ⟨fun z => q (.inl z), fun z => q (.inr z), fun x hw hr => ?_⟩
      rw [List.any_eq_false] at e
      exact e (mW x) (List.mem_filter.mpr ⟨hw, decide_eq_true rfl⟩) (decide_eq_true hr)
    · rintro ⟨_, _, c⟩
      rw [List.any_eq_false]
      intro m hm
      obtain ⟨hm, hw⟩ := List.mem_filter.mp hm
      have := two_form (.inr rfl) m (h m hm) (of_decide_eq_true hw)
      have c2 := c (m.getD 1 ("" : Str)) (by have e : mW (m.getD 1 ("" : Str)) = m := this.symm; rw [e]; exact hm)
      simpa using c2
theorem qAny_bls (bs : List Bool) : qAny [.lst (bs.map T.bl)] = .ok (.bl (bs.any id)) := by
  show (match fall blT (bs.map T.bl) with | some ns => RT.ok (T.bl (ns.any id)) | none => .bad) = _
  rw [fall_bls']
section
variable {rs : List Rule} (R : RsM rs) {d : Deed} (hd : okD (szs rs) [] d) (pd : dep d ≤ 9) {n : Nat}
include R hd pd
theorem goes_T (hn : 110 ≤ n) : tv (csem n .f_goes_twice) [encRsT rs, encT d] = .ok (.bl (goesM (mkD (rmk rs) d))) := by
  obtain ⟨m, rfl⟩ : ∃ m, n = m + 2 := ⟨n - 2, by omega⟩
  have h1 := touches_G R hd (n := m + 1) (by omega)
  have i1 := mk_in R.ok hd
  have l1 := mk_len R.ok hd
  generalize mkD (rmk rs) d = X at *
  refine cq_f_goes_twice (t_run rfl ?_) (by simp)
  unfold ct_f_goes_twice
  refine t_asg (t := lm X) (by simp [h1]) rfl ?_
  have qs : qIn (.tup [.str "say"]) (lm X) = .ok (.bl (decide (mS ∈ X))) := qIn_lm (m := mS) (by simp [mS, sok_rw]) i1
  have qa : qIn (.tup [.str "ask"]) (lm X) = .ok (.bl (decide (mA ∈ X))) := qIn_lm (m := mA) (by simp [mA, sok_rw]) i1
  simp only [List.map_cons, List.map_nil, List.cons_append, List.nil_append, List.replicate, Nat.reduceSub, List.set_cons_succ, List.set_cons_zero]
  by_cases q : mS ∈ X ∨ mA ∈ X
  · have e : goesM X = false := by unfold goesM; rw [if_pos q]
    rw [e]
    refine t_seqR (t_if (b := true) ?_ ?_)
    · simp only [te_or, te_test, te_bin, te_tup, te_cons, te_nil, te_C]
      rw [te_V (t := lm X) rfl]
      simp only [RT.bind_ok, List.length_cons, List.length_nil, Nat.zero_add, okB_1, if_true, qs, qa, asB_bl]
      by_cases q1 : mS ∈ X
      · simp [q1]
      · have q2 : mA ∈ X := q.resolve_left q1
        simp [q1, q2]
    · rw [if_pos rfl]
      exact t_ret rfl
  · have q1 : mS ∉ X := fun z => q (.inl z)
    have q2 : mA ∉ X := fun z => q (.inr z)
    refine t_skip ?_ (t_ret ?_)
    · simp only [te_or, te_test, te_bin, te_tup, te_cons, te_nil, te_C]
      rw [te_V (t := lm X) rfl]
      simp only [RT.bind_ok, List.length_cons, List.length_nil, Nat.zero_add, okB_1, if_true, qs, qa, asB_bl, decide_eq_false q1, decide_eq_false q2]
      rfl
    · have c := t_lc (τ := [some (encRsT rs), some (encT d), some (lm X), none]) (it := tiAny (tVar 2)) (g := hN 3) (c := tTest (tBin qEq (tBin qGet (tVar 3) (tC (.int 0))) (tC (.str "write")))) (e := tBin qIn (tTup (tCons (tC (.str "read")) (tCons (tBin qGet (tVar 3) (tC (.int 1))) tNil))) (tVar 2)) (vs := [3])
        (l := X) (m := unX) (k := fun q => decide (q.headD ("" : Str) = ("write" : Str))) (f := fun q => T.bl (decide (mR (q.getD 1 ("" : Str)) ∈ X))) (ti_any (l := lm X) rfl (.inl rfl)) (fun q hq => ⟨_, rfl, by
          simp only [te_test, te_bin, te_C, twipe, List.set_cons_succ, List.set_cons_zero]
          rw [te_V (t := unX q) rfl, RT.bind_ok, RT.bind_ok, unX_head (allM_ne q (i1 q hq))]
          simp, fun hk => by
          have h2 := unX_two (allM_two.2 q (i1 q hq) (of_decide_eq_true hk))
          have j : qIn (.tup [.str "read", .str (q.getD 1 ("" : Str))]) (lm X) = .ok (.bl (decide (mR (q.getD 1 ("" : Str)) ∈ X))) := qIn_lm (m := mR (q.getD 1 ("" : Str))) (sok_mR (sok_all2 q (i1 q hq))) i1
          simp only [te_bin, te_tup, te_cons, te_nil, te_C, twipe, List.set_cons_succ, List.set_cons_zero]
          rw [te_V (t := unX q) rfl, te_V (t := lm X) rfl]
          simp only [RT.bind_ok, h2, List.length_cons, List.length_nil, Nat.zero_add, Nat.reduceAdd, okB_2, if_true, j]⟩) (by omega)
      unfold tNotV
      rw [te_fn, te_cons, te_nil, c]
      simp only [RT.bind_ok]
      have e2 : (X.filter fun q => decide (q.headD ("" : Str) = ("write" : Str))).map (fun q => T.bl (decide (mR (q.getD 1 ("" : Str)) ∈ X))) = ((X.filter fun q => decide (q.headD ("" : Str) = ("write" : Str))).map fun q => decide (mR (q.getD 1 ("" : Str)) ∈ X)).map T.bl := by rw [List.map_map]; rfl
      rw [e2, qAny_bls]
      unfold goesM
      rw [if_neg q]
      rfl
end
section
variable {A B : Mk → Prop} {p q : Pg Int}
theorem Agr.trans {s t u : Stt} (h : Agr A s t) (g : Agr A t u) : Agr A s u := ⟨fun x hx => (h.rd x hx).trans (g.rd x hx), fun ha k => (h.ak ha k).trans (g.ak ha k)⟩
end
end DL

set_option Elab.async false
set_option linter.all false
set_option maxRecDepth 100000
set_option maxHeartbeats 1000000
namespace DL
open PySem
open KS (rise tLt sLt iLt ord_tup ord_str ord_int mem_rise Rising rising_rise)
theorem qIn_yes {t u : T} {us : List T} (ht : Fine t) (hu : FineL 37 us) (e : u = .lst us ∨ u = .tup us) (h : t ∈ us) : qIn t u = .ok (.bl true) := by
  rw [qIn_fine ht hu e]
  simp [h]
theorem qIn_no {t u : T} {us : List T} (ht : Fine t) (hu : FineL 37 us) (e : u = .lst us ∨ u = .tup us) (h : t ∉ us) : qIn t u = .ok (.bl false) := by
  rw [qIn_fine ht hu e]
  simp [h]
end DL

set_option Elab.async false
set_option linter.all false
set_option maxRecDepth 100000
set_option maxHeartbeats 1000000
namespace DL
open PySem
open KS (rise tLt sLt iLt ord_tup ord_str ord_int mem_rise Rising rising_rise rising_one)
def ClsBy (xs ys : List Mk) (z : Str) : Prop :=
  (z = "say" ∧ mS ∈ xs ∧ mS ∈ ys) ∨ (z = "ask" ∧ mA ∈ xs ∧ mA ∈ ys) ∨ (mW z ∈ xs ∧ (mR z ∈ ys ∨ mW z ∈ ys)) ∨ (mR z ∈ xs ∧ mW z ∈ ys)
theorem ClsBy.symm {xs ys : List Mk} {z : Str} : ClsBy xs ys z → ClsBy ys xs z
  | .inl ⟨a, b, c⟩ => .inl ⟨a, c, b⟩
  | .inr (.inl ⟨a, b, c⟩) => .inr (.inl ⟨a, c, b⟩)
  | .inr (.inr (.inl ⟨a, .inl b⟩)) => .inr (.inr (.inr ⟨b, a⟩))
  | .inr (.inr (.inl ⟨a, .inr b⟩)) => .inr (.inr (.inl ⟨b, .inr a⟩))
  | .inr (.inr (.inr ⟨a, b⟩)) => .inr (.inr (.inl ⟨b, .inl a⟩))
theorem mem_clash {xs ys : List Mk} (hx : ∀ m ∈ xs, okM [] m) {z : Str} : z ∈ clashM xs ys ↔ ClsBy xs ys z := by
  unfold clashM
  rw [mem_rise ord_str, List.mem_map]
  constructor
  · rintro ⟨m, hm, rfl⟩
    obtain ⟨hm, h⟩ := List.mem_filter.mp hm
    rcases hx m hm with rfl | rfl | ⟨x, _, rfl | rfl⟩ | ⟨x, q, _⟩
    · rw [met_say] at h
      exact .inl ⟨rfl, hm, of_decide_eq_true h⟩
    · rw [met_ask] at h
      exact .inr (.inl ⟨rfl, hm, of_decide_eq_true h⟩)
    · rw [met_rd] at h
      exact .inr (.inr (.inr ⟨hm, of_decide_eq_true h⟩))
    · rw [met_wr] at h
      have h2 : mR x ∈ ys ∨ mW x ∈ ys := by simpa using h
      exact .inr (.inr (.inl ⟨hm, h2⟩))
    · cases q
  · rintro (⟨rfl, a, b⟩ | ⟨rfl, a, b⟩ | ⟨a, b⟩ | ⟨a, b⟩)
    · exact ⟨mS, List.mem_filter.mpr ⟨a, by rw [met_say]; exact decide_eq_true b⟩, rfl⟩
    · exact ⟨mA, List.mem_filter.mpr ⟨a, by rw [met_ask]; exact decide_eq_true b⟩, rfl⟩
    · exact ⟨mW z, List.mem_filter.mpr ⟨a, by rw [met_wr]; simpa using b⟩, rfl⟩
    · exact ⟨mR z, List.mem_filter.mpr ⟨a, by rw [met_rd]; exact decide_eq_true b⟩, rfl⟩
theorem clash_rising (xs ys : List Mk) : Rising sLt (clashM xs ys) := rising_rise ord_str _
end DL

set_option Elab.async false
set_option linter.all false
set_option maxRecDepth 100000
set_option maxHeartbeats 1000000
namespace DL
open PySem
open KS (rise tLt sLt iLt ord_tup ord_str ord_int mem_rise Rising rising_rise rising_one)
theorem app_L {i : Nat} {p : TDen} {τ : TEnv} {ts : List T} {t : T} (h1 : τ[i]? = some (some (.lst ts))) (h2 : p τ = .ok t) (hb : ts.length < 1000000) : tsApp i p τ = .ok (.nx (τ.set i (some (.lst (ts ++ [t]))))) := by
  unfold tsApp
  rw [h1]
  have : ts.length < big := by simp [big]; omega
  simp only [h2, tsE, if_pos this]
theorem ext_L {i : Nat} {p : TDen} {τ : TEnv} {ts us : List T} (h1 : τ[i]? = some (some (.lst ts))) (h2 : p τ = .ok (.lst us)) (hb : ts.length + us.length ≤ 1000000) : tsExt i p τ = .ok (.nx (τ.set i (some (.lst (ts ++ us))))) := by
  unfold tsExt
  rw [h1]
  have : ts.length + us.length ≤ big := by simp [big]; omega
  simp only [h2, tsE, if_pos this]
theorem t_forK {I : Nat → TEnv → Prop} {g : DL.TG} {u : TSDen} : ∀ {ts : List T} {τ : TEnv} (k : Nat), (∀ i t, ts[i]? = some t → ∀ τ, I (k + i) τ → ∃ τ1, g t τ = some τ1 ∧ Nx (I (k + i + 1)) (u τ1)) → I k τ → Nx (I (k + ts.length)) (tForL g u ts τ)
  | [], τ, k, _, h => ⟨τ, rfl, h⟩
  | t :: ts, τ, k, h, hi => by
    obtain ⟨τ1, h1, τ2, h2, h3⟩ := h 0 t rfl τ hi
    obtain ⟨τ', e, h4⟩ := t_forK (ts := ts) (k + 1) (fun i t ht τ hi => by
      have := h (i + 1) t (by simpa using ht) τ (by rwa [show k + 1 + i = k + (i + 1) by omega] at hi)
      rwa [show k + (i + 1) + 1 = k + 1 + i + 1 by omega] at this) h3
    refine ⟨τ', by unfold tForL; simp only [h1, h2, tsN, e], ?_⟩
    rwa [show k + 1 + ts.length = k + (t :: ts).length by simp; omega] at h4
def allMayM : List (List Mk) → Bool
  | [] => true
  | x :: r => r.all (fun y => decide (clashM x y = [])) && allMayM r
def cpl : Nat → List (List Mk) → List (Nat × Nat)
  | _, [] => []
  | k, x :: r => ((List.range r.length).filter fun j => !decide (clashM x (r.getD j []) = [])).map (fun j => (k, k + 1 + j)) ++ cpl (k + 1) r
def prT (c : Nat × Nat) : T := .tup [.int (c.1 : Nat), .int (c.2 : Nat)]
theorem ti_range2 {p q : TDen} {τ : TEnv} {a b : Nat} (h : p τ = .ok (.int (a : Nat))) (h2 : q τ = .ok (.int (b : Nat))) (ha : a ≤ 100000) (hb : b ≤ 100000) : tiRange2 p q τ = .ok ((List.range (b - a)).map fun (k : Nat) => T.int ((a + k : Nat) : Int)) := by
  unfold tiRange2
  rw [h, h2, RT.bind_ok, RT.bind_ok]
  have e1 : okRb (a : Int) = true := okRb_iff.mpr (okR_of (by omega) (by omega))
  have e2 : okRb (b : Int) = true := okRb_iff.mpr (okR_of (by omega) (by omega))
  have e3 : ((b : Int) - (a : Int)).toNat = b - a := by omega
  simp only [if_pos (And.intro e1 e2), numsT, e3]
  congr 1
section
variable {rs : List Rule} (R : RsM rs) {ds : List Deed} (hd : ∀ d ∈ ds, okD (szs rs) [] d ∧ dep d ≤ 9) (hl : ds.length ≤ 100) {n : Nat}
include R hd hl
theorem all_may_T (hn : 114 ≤ n) : tv (csem n .f_all_may_go) [encRsT rs, .lst (ds.map encT)] = .ok (.bl (allMayM (ds.map fun d => mkD (rmk rs) d))) := by
  obtain ⟨m, rfl⟩ : ∃ m, n = m + 2 := ⟨n - 2, by omega⟩
  have may := fun {d e : Deed} (h : d ∈ ds) (g : e ∈ ds) => may_T R (hd d h).1 (hd e g).1 (hd d h).2 (hd e g).2 (n := m + 1) (by omega)
  refine cq_f_all_may_go (t_run rfl ?_) (by simp)
  unfold ct_f_all_may_go
  have loop : ∀ (r pre : List Deed), ds = pre ++ r → ∀ z2 z3 z4, ∃ τ', tForL (hT 2 (hsCons (hN 2) (hsCons (hN 3) hsNil))) (tsIf (tbNot (tTest (tFn qAll (tCons (tLc (tiAny (tSl (tVar 1) (tPart (tBin qAdd (tVar 2) (tC (.int 1)))) tNoPart)) (hN 4) tYes (tCall 3 (tv (csem (m + 1) .f_may_go)) (tCons (tVar 0) (tCons (tVar 3) (tCons (tVar 4) tNil)))) [4]) tNil)))) (tsRet (tC (.bl false))) tsNil)
      (numT pre.length (r.map encT)) [some (encRsT rs), some (.lst (ds.map encT)), z2, z3, z4] = if allMayM (r.map fun d => mkD (rmk rs) d) = true then .ok (.nx τ') else .ok (.rt (.bl false)) := by
    intro r
    induction r with
    | nil => intro pre e z2 z3 z4; exact ⟨[some (encRsT rs), some (.lst (ds.map encT)), z2, z3, z4], by simp [numT, tForL, allMayM]⟩
    | cons d r ih =>
      intro pre e z2 z3 z4
      have hdm : d ∈ ds := by rw [e]; simp
      obtain ⟨τ', h'⟩ := ih (pre ++ [d]) (by rw [e]; simp) (some (.int (pre.length : Nat))) (some (encT d)) z4
      have i1 : ((pre.length : Nat) : Int) + 1 = ((pre.length + 1 : Nat) : Int) := by omega
      have dr : (ds.map encT).drop (pre.length + 1) = r.map encT := by
        rw [e, List.map_append, List.map_cons, ← List.singleton_append, ← List.append_assoc, List.drop_left']
        simp
      have sl : qSl (.lst (ds.map encT)) (some ((pre.length : Nat) + 1 : Int)) none = .ok (.lst (r.map encT)) := by
        rw [q_slL, if_pos (okB_of (by simp; omega)), i1, cut_hi, dr]
      have lr : r.length ≤ 100 := by rw [e] at hl; simp at hl; omega
      have c := t_lcA (τ := [some (encRsT rs), some (.lst (ds.map encT)), some (.int (pre.length : Nat)), some (encT d), z4]) (it := tiAny (tSl (tVar 1) (tPart (tBin qAdd (tVar 2) (tC (.int 1)))) tNoPart)) (g := hN 4) (e := tCall 3 (tv (csem (m + 1) .f_may_go)) (tCons (tVar 0) (tCons (tVar 3) (tCons (tVar 4) tNil)))) (vs := [4])
        (l := r) (m := encT) (f := fun q => T.bl (decide (clashM (mkD (rmk rs) d) (mkD (rmk rs) q) = []))) (ti_any (l := .lst (r.map encT)) (by simp only [te_sl, te_part, te_noPart, te_bin, te_C]; rw [te_V (t := .lst (ds.map encT)) rfl, te_V (t := .int (pre.length : Nat)) rfl]; simp only [RT.bind_ok, q_addI, asI_int, sl]) (.inl rfl)) (fun q hq => ⟨_, rfl, by
          have qm : q ∈ ds := by rw [e]; simp [hq]
          simp [twipe, may hdm qm]⟩) (by omega)
      have e2 : (r.map fun q => T.bl (decide (clashM (mkD (rmk rs) d) (mkD (rmk rs) q) = []))) = (r.map fun q => decide (clashM (mkD (rmk rs) d) (mkD (rmk rs) q) = [])).map T.bl := by rw [List.map_map]; rfl
      have cond : ((tbNot (tTest (tFn qAll (tCons (tLc (tiAny (tSl (tVar 1) (tPart (tBin qAdd (tVar 2) (tC (.int 1)))) tNoPart)) (hN 4) tYes (tCall 3 (tv (csem (m + 1) .f_may_go)) (tCons (tVar 0) (tCons (tVar 3) (tCons (tVar 4) tNil)))) [4]) tNil)))) [some (encRsT rs), some (.lst (ds.map encT)), some (.int (pre.length : Nat)), some (encT d), z4]) = .ok (!((r.map fun d => mkD (rmk rs) d).all fun y => decide (clashM (mkD (rmk rs) d) y = []))) := by
        simp only [te_not, te_test, te_fn, te_cons, te_nil]
        rw [c]
        simp only [RT.bind_ok, e2, qAll_bls, asB_bl, List.all_map]
        rfl
      refine ⟨τ', ?_⟩
      simp only [List.map_cons, numT, tForL, te_hT, List.length_cons, List.length_nil, Nat.zero_add, Nat.reduceAdd, if_true, te_hsCons, te_hN, te_hsNil, Option.bind_some, List.set_cons_succ, List.set_cons_zero, allMayM]
      cases hc : (r.map fun d => mkD (rmk rs) d).all fun y => decide (clashM (mkD (rmk rs) d) y = []) with
      | true =>
        rw [hc] at cond
        have : tsIf (tbNot (tTest (tFn qAll (tCons (tLc (tiAny (tSl (tVar 1) (tPart (tBin qAdd (tVar 2) (tC (.int 1)))) tNoPart)) (hN 4) tYes (tCall 3 (tv (csem (m + 1) .f_may_go)) (tCons (tVar 0) (tCons (tVar 3) (tCons (tVar 4) tNil)))) [4]) tNil)))) (tsRet (tC (.bl false))) tsNil [some (encRsT rs), some (.lst (ds.map encT)), some (.int (pre.length : Nat)), some (encT d), z4] = .ok (.nx [some (encRsT rs), some (.lst (ds.map encT)), some (.int (pre.length : Nat)), some (encT d), z4]) := t_if cond (by rw [if_neg (by decide)]; rfl)
        rw [this]
        simp only [tsN, Bool.true_and]
        have e3 : pre.length + 1 = (pre ++ [d]).length := by simp
        rw [e3]
        exact h'
      | false =>
        rw [hc] at cond
        have : tsIf (tbNot (tTest (tFn qAll (tCons (tLc (tiAny (tSl (tVar 1) (tPart (tBin qAdd (tVar 2) (tC (.int 1)))) tNoPart)) (hN 4) tYes (tCall 3 (tv (csem (m + 1) .f_may_go)) (tCons (tVar 0) (tCons (tVar 3) (tCons (tVar 4) tNil)))) [4]) tNil)))) (tsRet (tC (.bl false))) tsNil [some (encRsT rs), some (.lst (ds.map encT)), some (.int (pre.length : Nat)), some (encT d), z4] = .ok (.rt (.bl false)) := t_if cond (by rw [if_pos (by decide)]; exact t_ret rfl)
        rw [this]
        simp [tsN]
  obtain ⟨τ', h'⟩ := loop ds [] rfl none none none
  have it : tiEnumA (tVar 1) [some (encRsT rs), some (.lst (ds.map encT)), none, none, none] = .ok (numT 0 (ds.map encT)) := rfl
  cases hc : allMayM (ds.map fun d => mkD (rmk rs) d) with
  | true =>
    rw [hc, if_pos rfl] at h'
    exact t_seq (t_for it h') (t_ret rfl)
  | false =>
    rw [hc, if_neg (by decide)] at h'
    exact t_seqR (t_for it h')
theorem clashing_T (hn : 114 ≤ n) : tv (csem n .f_clashing) [encRsT rs, .lst (ds.map encT)] = .ok (.lst ((cpl 0 (ds.map fun d => mkD (rmk rs) d)).map prT)) := by
  obtain ⟨m, rfl⟩ : ∃ m, n = m + 2 := ⟨n - 2, by omega⟩
  have may := fun {d e : Deed} (h : d ∈ ds) (g : e ∈ ds) => may_T R (hd d h).1 (hd e g).1 (hd d h).2 (hd e g).2 (n := m + 1) (by omega)
  refine cq_f_clashing (t_run rfl ?_) (by simp)
  unfold ct_f_clashing
  have loop : ∀ (r pre : List Deed), ds = pre ++ r → ∀ (acc : List (Nat × Nat)), acc.length ≤ 200 * pre.length → ∀ z3 z4 z5, ∃ y3 y4 y5, tForL (hT 2 (hsCons (hN 3) (hsCons (hN 4) hsNil))) (tsExt 2 (tLc (tiRange2 (tBin qAdd (tVar 3) (tC (.int 1))) (tFn qLen (tCons (tVar 1) tNil))) (hN 5) (tbNot (tTest (tCall 3 (tv (csem (m + 1) .f_may_go)) (tCons (tVar 0) (tCons (tVar 4) (tCons (tBin qGet (tVar 1) (tVar 5)) tNil)))))) (tTup (tCons (tVar 3) (tCons (tVar 5) tNil))) [5]))
      (numT pre.length (r.map encT)) [some (encRsT rs), some (.lst (ds.map encT)), some (.lst (acc.map prT)), z3, z4, z5] = .ok (.nx [some (encRsT rs), some (.lst (ds.map encT)), some (.lst ((acc ++ cpl pre.length (r.map fun d => mkD (rmk rs) d)).map prT)), y3, y4, y5]) := by
    intro r
    induction r with
    | nil => intro pre e acc ha z3 z4 z5; exact ⟨z3, z4, z5, by simp [numT, tForL, cpl]⟩
    | cons d r ih =>
      intro pre e acc ha z3 z4 z5
      have hdm : d ∈ ds := by rw [e]; simp
      have ld : ds.length = pre.length + (r.length + 1) := by rw [e]; simp
      have i1 : ((pre.length : Nat) : Int) + 1 = ((pre.length + 1 : Nat) : Int) := by omega
      have new : List (Nat × Nat) := []
      let nw := ((List.range r.length).filter fun j => !decide (clashM (mkD (rmk rs) d) ((r.map fun d => mkD (rmk rs) d).getD j []) = [])).map (fun j => (pre.length, pre.length + 1 + j))
      have c := t_lc (τ := [some (encRsT rs), some (.lst (ds.map encT)), some (.lst (acc.map prT)), some (.int (pre.length : Nat)), some (encT d), z5]) (it := tiRange2 (tBin qAdd (tVar 3) (tC (.int 1))) (tFn qLen (tCons (tVar 1) tNil))) (g := hN 5)
        (c := tbNot (tTest (tCall 3 (tv (csem (m + 1) .f_may_go)) (tCons (tVar 0) (tCons (tVar 4) (tCons (tBin qGet (tVar 1) (tVar 5)) tNil)))))) (e := tTup (tCons (tVar 3) (tCons (tVar 5) tNil))) (vs := [5])
        (l := List.range (ds.length - (pre.length + 1))) (m := fun (k : Nat) => T.int ((pre.length + 1 + k : Nat) : Int)) (k := fun j => !decide (clashM (mkD (rmk rs) d) ((r.map fun d => mkD (rmk rs) d).getD j []) = [])) (f := fun j => prT (pre.length, pre.length + 1 + j))
        (ti_range2 (a := pre.length + 1) (b := ds.length) (by simp only [te_bin, te_C]; rw [te_V (t := .int (pre.length : Nat)) rfl, RT.bind_ok, RT.bind_ok, q_addI, i1]) (by simp) (by omega) (by omega)) (fun j hj => ⟨_, rfl, by
          have hj : j < r.length := by have := List.mem_range.mp hj; omega
          have gd : ds[pre.length + 1 + j]? = some r[j] := by
            rw [e, List.getElem?_append_right (by omega), show pre.length + 1 + j - pre.length = j + 1 by omega, List.getElem?_cons_succ, List.getElem?_eq_getElem hj]
          have g1 : qGet (.lst (ds.map encT)) (.int ((pre.length + 1 + j : Nat) : Int)) = .ok (encT r[j]) := by
            rw [q_getL, L2atI (by simp; omega), List.getElem?_map, gd]
            rfl
          have g2 : (r.map fun d => mkD (rmk rs) d).getD j [] = mkD (rmk rs) r[j] := by
            rw [List.getD_eq_getElem?_getD, List.getElem?_map, List.getElem?_eq_getElem hj]
            rfl
          have qm : r[j] ∈ ds := List.mem_of_getElem? gd
          simp only [twipe, te_not, te_test, te_call, te_cons, te_nil, te_bin, List.set_cons_succ, List.set_cons_zero]
          rw [te_V (t := encRsT rs) rfl, te_V (t := encT d) rfl, te_V (t := .lst (ds.map encT)) rfl, te_V (t := .int ((pre.length + 1 + j : Nat) : Int)) rfl]
          simp only [RT.bind_ok, g1, List.length_cons, List.length_nil, Nat.zero_add, Nat.reduceAdd, if_true, may hdm qm, asB_bl, g2], fun _ => by
          simp only [twipe, te_tup, te_cons, te_nil, List.set_cons_succ, List.set_cons_zero]
          rw [te_V (t := .int (pre.length : Nat)) rfl, te_V (t := .int ((pre.length + 1 + j : Nat) : Int)) rfl]
          simp only [RT.bind_ok, List.length_cons, List.length_nil, Nat.zero_add, Nat.reduceAdd, okB_2, if_true]
          rfl⟩) (by simp; omega)
      rw [show ds.length - (pre.length + 1) = r.length by omega] at c
      have lw : nw.length ≤ r.length := by
        have := List.length_filter_le (fun j => !decide (clashM (mkD (rmk rs) d) ((r.map fun d => mkD (rmk rs) d).getD j []) = [])) (List.range r.length)
        simp only [nw, List.length_map]
        simpa using this
      have lr : r.length ≤ 100 := by omega
      have st := ext_L (i := 2) (τ := [some (encRsT rs), some (.lst (ds.map encT)), some (.lst (acc.map prT)), some (.int (pre.length : Nat)), some (encT d), z5]) (ts := acc.map prT) rfl c (by
        simp only [nw, List.length_map] at lw
        simp only [List.length_map]
        omega)
      obtain ⟨y3, y4, y5, h'⟩ := ih (pre ++ [d]) (by rw [e]; simp) (acc ++ nw) (by simp only [List.length_append, List.length_singleton]; omega) (some (.int (pre.length : Nat))) (some (encT d)) z5
      refine ⟨y3, y4, y5, ?_⟩
      simp only [List.map_cons, numT, tForL, te_hT, List.length_cons, List.length_nil, Nat.zero_add, Nat.reduceAdd, if_true, te_hsCons, te_hN, te_hsNil, Option.bind_some, List.set_cons_succ, List.set_cons_zero]
      rw [st]
      simp only [tsN, List.set_cons_succ, List.set_cons_zero]
      have e3 : pre.length + 1 = (pre ++ [d]).length := by simp
      have e4 : acc.map prT ++ ((List.range r.length).filter fun j => !decide (clashM (mkD (rmk rs) d) ((r.map fun d => mkD (rmk rs) d).getD j []) = [])).map (fun j => prT (pre.length, pre.length + 1 + j)) = (acc ++ nw).map prT := by
        simp only [nw, List.map_append, List.map_map]
        rfl
      rw [e4, e3, h']
      simp only [cpl, List.length_map, List.append_assoc, nw, List.length_append, List.length_singleton]
  have it : ∀ z2, tiEnumA (tVar 1) [some (encRsT rs), some (.lst (ds.map encT)), z2, none, none, none] = .ok (numT 0 (ds.map encT)) := fun z2 => rfl
  obtain ⟨y3, y4, y5, h'⟩ := loop ds [] rfl [] (by simp) none none none
  refine t_own (t := .lst []) rfl (by simp) ?_
  exact t_seq (t_for (it _) h') (t_ret rfl)
end
end DL

set_option Elab.async false
set_option linter.all false
set_option maxRecDepth 100000
set_option maxHeartbeats 1000000
namespace DL
open PySem
open KS (rise tLt sLt iLt ord_tup ord_str ord_int mem_rise Rising rising_rise rising_one)
theorem fine_unX {m : Mk} (h : ∀ x ∈ m, sok x = true) (k : Nat) : FineK (k + 1) (unX m) := .tup (.all fun t ht => by
  obtain ⟨x, hx, rfl⟩ := List.mem_map.mp ht
  exact .str k (h x hx))
theorem drop_T (m : Mk) : qSl (unX m) (some 1) none = .ok (unX (m.drop 1)) := by
  show RT.ok (T.tup (cutT (m.map T.str) (some ((1 : Nat) : Int)) none)) = _
  rw [cut_hi, ← List.map_drop]
  rfl
theorem qEq_unX {a b : Mk} (ha : ∀ x ∈ a, sok x = true) (hb : ∀ x ∈ b, sok x = true) : qEq (unX a) (unX b) = .ok (.bl (decide (a = b))) := by
  classical
  rw [qEq_fine (fine_unX ha 37) (fine_unX hb 37)]
  congr 2
  exact decide_eq_decide.mpr ⟨unX_inj, fun e => by rw [e]⟩
def hitM (xs ys : List Mk) : List Str := (xs.filter fun m => decide (m.headD ("" : Str) = ("write" : Str)) && !decide ((ys.filter fun q => decide (q.drop 1 = m.drop 1)) = [])).map fun m => m.getD 1 ("" : Str)
def word2M (xs ys : List Mk) : List Str := (xs.filter fun m => decide (m = mS ∨ m = mA) && decide (m ∈ ys)).map fun m => m.headD ("" : Str)
theorem mem_hit {xs ys : List Mk} (hi : ∀ m ∈ xs, m ∈ allM) (hy : ∀ m ∈ ys, okM [] m) {z : Str} : z ∈ hitM xs ys ↔ mW z ∈ xs ∧ (mR z ∈ ys ∨ mW z ∈ ys) := by
  unfold hitM
  rw [List.mem_map]
  constructor
  · rintro ⟨m, hm, rfl⟩
    obtain ⟨hm, h⟩ := List.mem_filter.mp hm
    simp only [Bool.and_eq_true, decide_eq_true_eq, Bool.not_eq_true', decide_eq_false_iff_not] at h
    have e := two_form (.inr rfl) m (hi m hm) h.1
    refine ⟨by have : mW (m.getD 1 ("" : Str)) = m := e.symm; rw [this]; exact hm, ?_⟩
    obtain ⟨q, hq⟩ := List.exists_mem_of_ne_nil _ h.2
    obtain ⟨hq, h2⟩ := List.mem_filter.mp hq
    have h2 := of_decide_eq_true h2
    rw [e] at h2
    rcases hy q hq with rfl | rfl | ⟨x, _, rfl | rfl⟩ | ⟨x, w, _⟩
    · simp [mS] at h2
    · simp [mA] at h2
    · simp [mR] at h2
      left
      have : m.getD 1 ("" : Str) = x := by rw [List.getD_eq_getElem?_getD]; exact h2.symm
      rw [this]; exact hq
    · simp [mW] at h2
      right
      have : m.getD 1 ("" : Str) = x := by rw [List.getD_eq_getElem?_getD]; exact h2.symm
      rw [this]; exact hq
    · cases w
  · rintro ⟨a, b⟩
    refine ⟨mW z, List.mem_filter.mpr ⟨a, ?_⟩, rfl⟩
    simp only [Bool.and_eq_true, decide_eq_true_eq, Bool.not_eq_true', decide_eq_false_iff_not]
    refine ⟨rfl, fun e => ?_⟩
    rw [List.filter_eq_nil_iff] at e
    rcases b with b | b
    · exact e _ b (decide_eq_true rfl)
    · exact e _ b (decide_eq_true rfl)
theorem mem_word2 {xs ys : List Mk} {z : Str} : z ∈ word2M xs ys ↔ (z = "say" ∧ mS ∈ xs ∧ mS ∈ ys) ∨ (z = "ask" ∧ mA ∈ xs ∧ mA ∈ ys) := by
  unfold word2M
  rw [List.mem_map]
  constructor
  · rintro ⟨m, hm, rfl⟩
    obtain ⟨hm, h⟩ := List.mem_filter.mp hm
    simp only [Bool.and_eq_true, decide_eq_true_eq] at h
    rcases h.1 with rfl | rfl
    · exact .inl ⟨rfl, hm, h.2⟩
    · exact .inr ⟨rfl, hm, h.2⟩
  · rintro (⟨rfl, h, h2⟩ | ⟨rfl, h, h2⟩)
    · exact ⟨mS, List.mem_filter.mpr ⟨h, by simp [h2]⟩, rfl⟩
    · exact ⟨mA, List.mem_filter.mpr ⟨h, by simp [h2]⟩, rfl⟩
theorem hit_clash {xs ys : List Mk} (hx : ∀ m ∈ xs, okM [] m) (hy : ∀ m ∈ ys, okM [] m) (ix : ∀ m ∈ xs, m ∈ allM) (iy : ∀ m ∈ ys, m ∈ allM) : rise sLt ((word2M xs ys ++ hitM xs ys) ++ hitM ys xs) = clashM xs ys := by
  refine rising_one ord_str (rising_rise ord_str _) (clash_rising _ _) fun z => ?_
  rw [mem_rise ord_str, mem_clash hx, List.mem_append, List.mem_append, mem_word2, mem_hit ix hy, mem_hit iy hx]
  constructor
  · rintro (((a | a) | a) | ⟨a, b | b⟩)
    · exact .inl a
    · exact .inr (.inl a)
    · exact .inr (.inr (.inl a))
    · exact .inr (.inr (.inr ⟨b, a⟩))
    · exact .inr (.inr (.inl ⟨b, .inr a⟩))
  · rintro (a | a | a | ⟨a, b⟩)
    · exact .inl (.inl (.inl a))
    · exact .inl (.inl (.inr a))
    · exact .inl (.inr a)
    · exact .inr ⟨b, .inl a⟩
section
variable {X Y : List Mk} (iX : ∀ m ∈ X, m ∈ allM) (iY : ∀ m ∈ Y, m ∈ allM) (lX : X.length ≤ 17) (lY : Y.length ≤ 17)
theorem sok_drop {m : Mk} (h : m ∈ allM) : ∀ x ∈ m.drop 1, sok x = true := fun x hx => sok_all m h x (List.mem_of_mem_drop hx)
noncomputable def hitU : TSDen := tsIf (tbAnd (tTest (tBin qEq (tBin qGet (tVar 5) (tC (.int 0))) (tC (.str "write")))) (tTest (tBin qNe (tLc (tiAny (tVar 4)) (hN 6) (tTest (tBin qEq (tSl (tVar 6) (tPart (tC (.int 1))) tNoPart) (tSl (tVar 5) (tPart (tC (.int 1))) tNoPart))) (tVar 6) [6]) (tLst tNil)))) (tsApp 2 (tBin qGet (tVar 5) (tC (.int 1)))) tsNil
include iY lY in
theorem hit_loop (z0 z1 : Option T) : ∀ (r : List Mk), (∀ m ∈ r, m ∈ allM) → ∀ (acc : List Str) (z5 z6 : Option T), acc.length + r.length ≤ 1000 → ∃ y5 y6, tForL (hN 5) hitU (r.map unX) [z0, z1, some (.lst (acc.map T.str)), some (lm X), some (lm Y), z5, z6] = .ok (.nx [z0, z1, some (.lst ((acc ++ hitM r Y).map T.str)), some (lm X), some (lm Y), y5, y6])
  | [], _, acc, z5, z6, _ => ⟨z5, z6, by simp [tForL, hitM]⟩
  | m :: r, h, acc, z5, z6, hb => by
    have hm := h m List.mem_cons_self
    have hh := unX_head (allM_ne m hm)
    simp only [List.length_cons] at hb
    have c := t_lc (τ := [z0, z1, some (.lst (acc.map T.str)), some (lm X), some (lm Y), some (unX m), z6]) (it := tiAny (tVar 4)) (g := hN 6) (c := tTest (tBin qEq (tSl (tVar 6) (tPart (tC (.int 1))) tNoPart) (tSl (tVar 5) (tPart (tC (.int 1))) tNoPart))) (e := tVar 6) (vs := [6])
      (l := Y) (m := unX) (k := fun q => decide (q.drop 1 = m.drop 1)) (f := unX) (ti_any (l := lm Y) rfl (.inl rfl)) (fun q hq => ⟨_, rfl, by
        have e1 := qEq_unX (sok_drop (iY q hq)) (sok_drop hm)
        simp only [twipe, te_test, te_bin, te_sl, te_part, te_noPart, te_C, List.set_cons_succ, List.set_cons_zero]
        rw [te_V (t := unX q) rfl, te_V (t := unX m) rfl]
        simp only [RT.bind_ok, asI_int, drop_T, e1, asB_bl], fun _ => rfl⟩) (by omega)
    generalize hF : Y.filter (fun q => decide (q.drop 1 = m.drop 1)) = F at c
    have fF : ∀ q ∈ F, q ∈ allM := fun q hq => by
      rw [← hF] at hq
      exact iY q (List.mem_filter.mp hq).1
    have ne : qNe (.lst (F.map unX)) (.lst []) = .ok (.bl (!decide (F = []))) := by
      have : qNe (lm F) (.lst []) = _ := qNe_fine (fine_lm fF) (FineK.lst (k := 37) (.nil _))
      have e : qNe (.lst (F.map unX)) (.lst []) = qNe (lm F) (.lst []) := rfl
      rw [e]
      cases F with
      | nil => exact qNe_same (FineK.lst (k := 37) (.nil _)) rfl
      | cons a F => exact qNe_not (fine_lm fF) (FineK.lst (k := 37) (.nil _)) (by simp [lm])
    have cond : (tbAnd (tTest (tBin qEq (tBin qGet (tVar 5) (tC (.int 0))) (tC (.str "write")))) (tTest (tBin qNe (tLc (tiAny (tVar 4)) (hN 6) (tTest (tBin qEq (tSl (tVar 6) (tPart (tC (.int 1))) tNoPart) (tSl (tVar 5) (tPart (tC (.int 1))) tNoPart))) (tVar 6) [6]) (tLst tNil)))) [z0, z1, some (.lst (acc.map T.str)), some (lm X), some (lm Y), some (unX m), z6] = .ok (decide (m.headD ("" : Str) = ("write" : Str)) && !decide (F = [])) := by
      simp only [te_and, te_test, te_bin, te_C, te_lst, te_nil]
      rw [c, te_V (t := unX m) rfl]
      simp only [RT.bind_ok, hh, q_eqS, asB_bl, List.length_nil, okB_0, if_true, ne]
      cases decide (m.headD ("" : Str) = ("write" : Str)) <;> rfl
    have hitC : hitM (m :: r) Y = (if (decide (m.headD ("" : Str) = ("write" : Str)) && !decide (F = [])) = true then [m.getD 1 ("" : Str)] else []) ++ hitM r Y := by
      unfold hitM
      rw [List.filter_cons, hF]
      split <;> simp
    cases hc : (decide (m.headD ("" : Str) = ("write" : Str)) && !decide (F = [])) with
    | true =>
      rw [hc] at cond hitC
      rw [if_pos rfl] at hitC
      have hw : m.headD ("" : Str) = ("write" : Str) := by
        rw [Bool.and_eq_true] at hc
        exact of_decide_eq_true hc.1
      have g1 := unX_two (allM_two.2 m hm hw)
      obtain ⟨y5, y6, ih⟩ := hit_loop z0 z1 r (fun q hq => h q (List.mem_cons_of_mem _ hq)) (acc ++ [m.getD 1 ("" : Str)]) (some (unX m)) z6 (by simp; omega)
      refine ⟨y5, y6, ?_⟩
      have st : hitU [z0, z1, some (.lst (acc.map T.str)), some (lm X), some (lm Y), some (unX m), z6] = .ok (.nx [z0, z1, some (.lst ((acc ++ [m.getD 1 ("" : Str)]).map T.str)), some (lm X), some (lm Y), some (unX m), z6]) := by
        unfold hitU
        refine t_if cond ?_
        rw [if_pos rfl]
        have := app_L (i := 2) (p := tBin qGet (tVar 5) (tC (.int 1))) (τ := [z0, z1, some (.lst (acc.map T.str)), some (lm X), some (lm Y), some (unX m), z6]) (ts := acc.map T.str) (t := .str (m.getD 1 ("" : Str))) rfl (by simp only [te_bin, te_C]; rw [te_V (t := unX m) rfl, RT.bind_ok, RT.bind_ok, g1]) (by simp; omega)
        rw [this, List.map_append]
        rfl
      simp only [List.map_cons, tForL, te_hN, List.set_cons_succ, List.set_cons_zero]
      rw [st]
      simp only [tsN]
      rw [ih, hitC, List.append_assoc]
    | false =>
      rw [hc] at cond hitC
      rw [if_neg (by decide), List.nil_append] at hitC
      obtain ⟨y5, y6, ih⟩ := hit_loop z0 z1 r (fun q hq => h q (List.mem_cons_of_mem _ hq)) acc (some (unX m)) z6 (by omega)
      refine ⟨y5, y6, ?_⟩
      have st : hitU [z0, z1, some (.lst (acc.map T.str)), some (lm X), some (lm Y), some (unX m), z6] = .ok (.nx [z0, z1, some (.lst (acc.map T.str)), some (lm X), some (lm Y), some (unX m), z6]) := by
        unfold hitU
        refine t_if cond ?_
        rw [if_neg (by decide)]
        rfl
      simp only [List.map_cons, tForL, te_hN, List.set_cons_succ, List.set_cons_zero]
      rw [st]
      simp only [tsN]
      rw [ih, hitC]
include iX iY lX lY
theorem lawclash_T (oX : ∀ m ∈ X, okM [] m) (oY : ∀ m ∈ Y, okM [] m) {n : Nat} (hn : 2 ≤ n) : tv (csem n .f__law_clash) [lm X, lm Y] = .ok (.lst ((clashM X Y).map T.str)) := by
  obtain ⟨m, rfl⟩ : ∃ m, n = m + 2 := ⟨n - 2, by omega⟩
  refine cq_f__law_clash (t_run rfl ?_) (by simp)
  unfold ct_f__law_clash
  have c := t_lc (τ := [some (lm X), some (lm Y), none, none, none, none, none]) (it := tiAny (tVar 0)) (g := hN 5) (c := tbAnd (tTest (tBin qIn (tVar 5) (tTup (tCons (tTup (tCons (tC (.str "say")) tNil)) (tCons (tTup (tCons (tC (.str "ask")) tNil)) tNil))))) (tTest (tBin qIn (tVar 5) (tVar 1)))) (e := tBin qGet (tVar 5) (tC (.int 0))) (vs := [5])
    (l := X) (m := unX) (k := fun q => decide (q = mS ∨ q = mA) && decide (q ∈ Y)) (f := fun q => T.str (q.headD ("" : Str))) (ti_any (l := lm X) rfl (.inl rfl)) (fun q hq => ⟨_, rfl, by
      have fm : FineK 38 (unX q) := fine_mark (iX q hq) 37
      have fl : FineL 37 [unX mS, unX mA] := .cons (fine_mark (by decide +kernel) 36) (.cons (fine_mark (by decide +kernel) 36) (.nil _))
      have qq : qIn (unX q) (.tup [.tup [.str "say"], .tup [.str "ask"]]) = .ok (.bl (decide (q = mS ∨ q = mA))) := by
        by_cases h : q = mS ∨ q = mA
        · rw [decide_eq_true h]
          refine qIn_yes fm fl (.inr rfl) ?_
          rcases h with rfl | rfl
          · exact List.mem_cons_self
          · exact List.mem_cons_of_mem _ List.mem_cons_self
        · rw [decide_eq_false h]
          refine qIn_no fm fl (.inr rfl) fun hm => h ?_
          simp only [List.mem_cons, List.not_mem_nil, or_false] at hm
          exact hm.imp unX_inj unX_inj
      have q2 := qIn_lm (sok_all q (iX q hq)) iY
      simp only [twipe, te_and, te_test, te_bin, te_tup, te_cons, te_nil, te_C, List.set_cons_succ, List.set_cons_zero]
      rw [te_V (t := unX q) rfl, te_V (t := lm Y) rfl]
      simp only [RT.bind_ok, List.length_cons, List.length_nil, Nat.zero_add, Nat.reduceAdd, okB_1, okB_2, if_true, qq, q2, asB_bl]
      cases decide (q = mS ∨ q = mA) <;> rfl, fun _ => by
      simp only [twipe, te_bin, te_C, List.set_cons_succ, List.set_cons_zero]
      rw [te_V (t := unX q) rfl, RT.bind_ok, RT.bind_ok, unX_head (allM_ne q (iX q hq))]⟩) (by omega)
  have l0 : (word2M X Y).length ≤ 17 := by unfold word2M; rw [List.length_map]; exact Nat.le_trans (List.length_filter_le _ _) lX
  have l1 : (hitM X Y).length ≤ 17 := by unfold hitM; rw [List.length_map]; exact Nat.le_trans (List.length_filter_le _ _) lX
  refine t_own (t := .lst ((word2M X Y).map T.str)) ?_ (by simp) ?_
  · have : (word2M X Y).map T.str = (X.filter fun m => decide (m = mS ∨ m = mA) && decide (m ∈ Y)).map fun q => T.str (q.headD ("" : Str)) := by unfold word2M; rw [List.map_map]; rfl
    rw [this]
    exact c
  obtain ⟨a5, a6, h1⟩ := hit_loop (X := X) iY lY (some (lm X)) (some (lm Y)) X iX (word2M X Y) none none (by omega)
  obtain ⟨b5, b6, h2⟩ := hit_loop (X := Y) iX lX (some (lm X)) (some (lm Y)) Y iY (word2M X Y ++ hitM X Y) a5 a6 (by simp; omega)
  refine t_seq (τ' := [some (lm X), some (lm Y), some (.lst (((word2M X Y ++ hitM X Y) ++ hitM Y X).map T.str)), some (lm Y), some (lm X), b5, b6]) ?_ ?_
  · refine t_for (ts := [.tup [lm X, lm Y], .tup [lm Y, lm X]]) (ti_any (l := .tup [.tup [lm X, lm Y], .tup [lm Y, lm X]]) (by simp) (.inr (.inl rfl))) ?_
    simp only [tForL, te_hT, List.length_cons, List.length_nil, Nat.zero_add, Nat.reduceAdd, if_true, te_hsCons, te_hN, te_hsNil, Option.bind_some]
    have f1 : tsFor (tiAny (tVar 3)) (hN 5) hitU [some (lm X), some (lm Y), some (.lst ((word2M X Y).map T.str)), some (lm X), some (lm Y), none, none] = _ := t_for (ti_any (l := lm X) rfl (.inl rfl)) h1
    have f2 : tsFor (tiAny (tVar 3)) (hN 5) hitU [some (lm X), some (lm Y), some (.lst ((word2M X Y ++ hitM X Y).map T.str)), some (lm Y), some (lm X), a5, a6] = _ := t_for (ti_any (l := lm Y) rfl (.inl rfl)) h2
    show tsN (tsFor (tiAny (tVar 3)) (hN 5) hitU [some (lm X), some (lm Y), some (.lst ((word2M X Y).map T.str)), some (lm X), some (lm Y), none, none]) _ = _
    rw [f1]
    simp only [tsN, List.set_cons_succ, List.set_cons_zero]
    show tsN (tsFor (tiAny (tVar 3)) (hN 5) hitU [some (lm X), some (lm Y), some (.lst ((word2M X Y ++ hitM X Y).map T.str)), some (lm Y), some (lm X), a5, a6]) _ = _
    rw [f2]
    rfl
  · have few : (rise sLt ((word2M X Y ++ hitM X Y) ++ hitM Y X)).length < 64 := by
      rw [hit_clash oX oY iX iY]
      exact clash_few iX
    have := ss_st (p := tVar 2) (τ := [some (lm X), some (lm Y), some (.lst (((word2M X Y ++ hitM X Y) ++ hitM Y X).map T.str)), some (lm Y), some (lm X), b5, b6]) (a := (word2M X Y ++ hitM X Y) ++ hitM Y X) rfl few
    rw [hit_clash oX oY iX iY] at this
    exact t_ret this
end
end DL

set_option Elab.async false
set_option linter.all false
set_option maxRecDepth 100000
set_option maxHeartbeats 1000000
namespace DL
open PySem
theorem isi_list {p : TDen} {τ : TEnv} {ts : List T} (h : p τ = .ok (.lst ts)) : tIsi "list" p τ = .ok (.bl true) := by
  unfold tIsi
  rw [h, RT.bind_ok]
  rfl
theorem isi_bool {p : TDen} {τ : TEnv} {b : Bool} (h : p τ = .ok (.bl b)) : tIsi "bool" p τ = .ok (.bl true) := by
  unfold tIsi
  rw [h, RT.bind_ok]
  rfl
theorem not_f {p : TDen} {τ : TEnv} (h : p τ = .ok (.bl true)) : tbNot (tTest p) τ = .ok false := by
  simp only [te_not, te_test, h, RT.bind_ok, asB_bl]
  rfl
theorem qEq_bl (a b : Bool) : qEq (.bl a) (.bl b) = .ok (.bl (decide (a = b))) := by cases a <;> cases b <;> rfl
theorem qNe_bl (a b : Bool) : qNe (.bl a) (.bl b) = .ok (.bl (!decide (a = b))) := by cases a <;> cases b <;> rfl
theorem ne_bl {p q : TDen} {τ : TEnv} {a b : Bool} (hp : p τ = .ok (.bl a)) (hq : q τ = .ok (.bl b)) (e : a = b) : tTest (tBin qNe p q) τ = .ok false := by
  subst e
  rw [te_test, te_bin, hp, hq, RT.bind_ok, RT.bind_ok, qNe_bl, RT.bind_ok, asB_bl]
  simp
theorem eqNil {s : List Str} (h : ∀ x ∈ s, sok x = true) : qEq (.lst (s.map T.str)) (.lst []) = .ok (.bl (decide (s = []))) := by
  rw [qEq_fine (fine_strs h) (FineK.lst (k := 37) (.nil _))]
  congr 2
  classical
  exact decide_eq_decide.mpr ⟨fun h => by injection h with h; exact List.map_eq_nil_iff.mp h, fun h => by rw [h]; rfl⟩
theorem get_L {ts : List T} {j : Nat} {t : T} (h : ts[j]? = some t) : qGet (.lst ts) (.int (j : Nat)) = .ok t := by
  have hl : j < ts.length := by
    rcases Nat.lt_or_ge j ts.length with q | q
    · exact q
    · rw [List.getElem?_eq_none q] at h; cases h
  rw [q_getL, L2atI hl, h]
theorem getM {M : List (List Mk)} {a : Nat} {X : List Mk} (h : M[a]? = some X) : qGet (.lst (M.map lm)) (.int (a : Nat)) = .ok (lm X) := get_L (by rw [List.getElem?_map, h]; rfl)
theorem getD1_mem {m : Mk} (h : 2 ≤ m.length) : m.getD 1 ("" : Str) ∈ m := by
  rw [List.getD_eq_getElem?_getD, List.getElem?_eq_getElem (by omega)]
  exact List.getElem_mem _
theorem nx_seq {I J : TEnv → Prop} {u w : TSDen} {τ : TEnv} (h : Nx I (u τ)) (k : ∀ τ', I τ' → Nx J (w τ')) : Nx J (tsSeq u w τ) := by
  obtain ⟨τ', e, hi⟩ := h
  exact nx_eq (t_seq e rfl) (k τ' hi)
theorem nx_for {I : TEnv → Prop} {it : TIt} {g : DL.TG} {u : TSDen} {ts : List T} {τ : TEnv} (hi : it τ = .ok ts) (h : Nx I (tForL g u ts τ)) : Nx I (tsFor it g u τ) := nx_eq (t_for hi rfl) h
theorem fine_prs (c : List (Nat × Nat)) : Fine (.lst (c.map prT)) := FineK.lst (k := 37) (.all fun t ht => by
  obtain ⟨x, hx, rfl⟩ := List.mem_map.mp ht
  exact FineK.tup (k := 36) (.cons (.int _ _) (.cons (.int _ _) (.nil _))))
theorem eqNilP (C : List (Nat × Nat)) : qEq (.lst (C.map prT)) (.lst []) = .ok (.bl (decide (C = []))) := by
  rw [qEq_fine (fine_prs C) (FineK.lst (k := 37) (.nil _))]
  congr 2
  classical
  exact decide_eq_decide.mpr ⟨fun h => by injection h with h; exact List.map_eq_nil_iff.mp h, fun h => by rw [h]; rfl⟩
end DL

set_option Elab.async false
set_option linter.all false
namespace Lk40
open PySem L2 DL
inductive LF where
  | f_law
def b_f_law (c c2 : CF → Fn) (l l2 : LF → Fn) : SDen :=
    (sSeq (sAsg (dCall 2 (c .f__law_rules) (dCons (dVar 0) (dCons (dC (.int 1)) dNil))) (gN 1))
    (sSeq (sAsg (dLc (iRange1 (dCall 3 (c .f__law_drawn) (dCons (dVar 0) (dCons (dC (.int 60)) (dCons (dC (.int 5)) dNil))))) (gN 15) bYes (dCall 4 (c .f__law_light) (dCons (dVar 0) (dCons (dBin oAdd (dC (.int 90)) (dBin oMul (dC (.int 31)) (dVar 15))) (dCons (dC (.int 2)) (dCons (dVar 1) dNil))))) [15]) (gN 2))
    (sSeq (sAsg (dLc (iAny (dVar 2)) (gN 16) bYes (dCall 2 (c .f__law_marks) (dCons (dVar 1) (dCons (dVar 16) dNil))) [16]) (gN 3))
    (sSeq (sAsg (dLst dNil) (gN 4))
    (sSeq (sFor (iEnumA (dVar 2)) (gT 2 (gsCons (gN 5) (gsCons (gN 6) gsNil))) (sSeq (sFor (iEnumA (dVar 2)) (gT 2 (gsCons (gN 7) (gsCons (gN 8) gsNil))) (sSeq (sAsg (dCall 2 (c .f__law_clash) (dCons (dBin oGet (dVar 3) (dVar 5)) (dCons (dBin oGet (dVar 3) (dVar 7)) dNil))) (gN 9))
    (sSeq (sAsg (dCall 3 (c .f_clash) (dCons (dVar 1) (dCons (dVar 6) (dCons (dVar 8) dNil)))) (gN 10))
    (sSeq (sAsg (dCall 3 (c .f_may_go) (dCons (dVar 1) (dCons (dVar 6) (dCons (dVar 8) dNil)))) (gN 11))
    (sSeq (sIf (bOr (bNot (dTest (dIsi "list" (dVar 10)))) (bOr (dTest (dBin oNe (dVar 10) (dVar 9))) (bOr (bNot (dTest (dIsi "bool" (dVar 11)))) (dTest (dBin oNe (dVar 11) (dBin oEq (dVar 9) (dLst dNil))))))) (sRet (dC (.bl false))) sNil)
    (sIf (bAnd (dTest (dBin oLt (dVar 5) (dVar 7))) (dTest (dBin oNe (dVar 9) (dLst dNil)))) (sExpr (dAppend (dVar 4) (dTup (dCons (dVar 5) (dCons (dVar 7) dNil))))) sNil))))))
    (sSeq (sAsg (dLc (iAny (dBin oGet (dVar 3) (dVar 5))) (gN 17) (dTest (dBin oEq (dBin oGet (dVar 17) (dC (.int 0))) (dC (.str "read")))) (dBin oGet (dVar 17) (dC (.int 1))) [17]) (gN 12))
    (sSeq (sAsg (dLc (iAny (dBin oGet (dVar 3) (dVar 5))) (gN 17) (bAnd (dTest (dBin oEq (dBin oGet (dVar 17) (dC (.int 0))) (dC (.str "write")))) (dTest (dBin oIn (dBin oGet (dVar 17) (dC (.int 1))) (dVar 12)))) (dVar 17) [17]) (gN 13))
    (sSeq (sAsg (dCall 2 (c .f_goes_twice) (dCons (dVar 1) (dCons (dVar 6) dNil))) (gN 11))
    (sSeq (sAsg (dAndV (dBin oEq (dVar 13) (dLst dNil)) (dAndV (dBin oNotIn (dTup (dCons (dC (.str "say")) dNil)) (dBin oGet (dVar 3) (dVar 5))) (dBin oNotIn (dTup (dCons (dC (.str "ask")) dNil)) (dBin oGet (dVar 3) (dVar 5))))) (gN 14))
    (sIf (bOr (bNot (dTest (dIsi "bool" (dVar 11)))) (dTest (dBin oNe (dVar 11) (dVar 14)))) (sRet (dC (.bl false))) sNil)))))))
    (sSeq (sAsg (dCall 2 (c .f_all_may_go) (dCons (dVar 1) (dCons (dVar 2) dNil))) (gN 11))
    (sRet (dAndV (dBin oEq (dCall 2 (c .f_clashing) (dCons (dVar 1) (dCons (dVar 2) dNil))) (dVar 4)) (dAndV (dIsi "bool" (dVar 11)) (dBin oEq (dVar 11) (dBin oEq (dVar 4) (dLst dNil))))))))))))
def lbody (c c2 : CF → Fn) (l l2 : LF → Fn) : LF → Fn
  | .f_law => runFn 1 18 (b_f_law c c2 l l2)
def lsem : Nat → LF → Fn
  | 0 => fun _ _ _ => .bad
  | 1 => fun _ _ _ => .bad
  | n + 2 => lbody (csem (n + 1)) (csem n) (lsem (n + 1)) (lsem n)
theorem ls_f_law (n : Nat) : lsem (n + 2) .f_law = runFn 1 18 (b_f_law (csem (n + 1)) (csem n) (lsem (n + 1)) (lsem n)) := rfl
end Lk40

set_option Elab.async false
set_option linter.all false
set_option maxRecDepth 100000
namespace Lk40
open PySem DL
noncomputable def lt_f_law (c : CF → TFn) (l : LF → TFn) (o o2 : CF → OFn) : TSDen :=
    (tsSeq (tsAsg (tCall 2 (c .f__law_rules) (tCons (tVar 0) (tCons (tC (.int 1)) tNil))) (hN 1))
    (tsSeq (tsAsg (tLc (tiRange1 (tCall 3 (c .f__law_drawn) (tCons (tVar 0) (tCons (tC (.int 60)) (tCons (tC (.int 5)) tNil))))) (hN 15) tYes (tCall 4 (c .f__law_light) (tCons (tVar 0) (tCons (tBin qAdd (tC (.int 90)) (tBin qMul (tC (.int 31)) (tVar 15))) (tCons (tC (.int 2)) (tCons (tVar 1) tNil))))) [15]) (hN 2))
    (tsSeq (tsAsg (tLc (tiAny (tVar 2)) (hN 16) tYes (tCall 2 (c .f__law_marks) (tCons (tVar 1) (tCons (tVar 16) tNil))) [16]) (hN 3))
    (tsSeq (tsOwn (tLst tNil) 4)
    (tsSeq (tsFor (tiEnumA (tVar 2)) (hT 2 (hsCons (hN 5) (hsCons (hN 6) hsNil))) (tsSeq (tsFor (tiEnumA (tVar 2)) (hT 2 (hsCons (hN 7) (hsCons (hN 8) hsNil))) (tsSeq (tsAsg (tCall 2 (c .f__law_clash) (tCons (tBin qGet (tVar 3) (tVar 5)) (tCons (tBin qGet (tVar 3) (tVar 7)) tNil))) (hN 9))
    (tsSeq (tsAsg (tCall 3 (c .f_clash) (tCons (tVar 1) (tCons (tVar 6) (tCons (tVar 8) tNil)))) (hN 10))
    (tsSeq (tsAsg (tCall 3 (c .f_may_go) (tCons (tVar 1) (tCons (tVar 6) (tCons (tVar 8) tNil)))) (hN 11))
    (tsSeq (tsIf (tbOr (tbNot (tTest (tIsi "list" (tVar 10)))) (tbOr (tTest (tBin qNe (tVar 10) (tVar 9))) (tbOr (tbNot (tTest (tIsi "bool" (tVar 11)))) (tTest (tBin qNe (tVar 11) (tBin qEq (tVar 9) (tLst tNil))))))) (tsRet (tC (.bl false))) tsNil)
    (tsIf (tbAnd (tTest (tBin qLt (tVar 5) (tVar 7))) (tTest (tBin qNe (tVar 9) (tLst tNil)))) (tsApp 4 (tTup (tCons (tVar 5) (tCons (tVar 7) tNil)))) tsNil))))))
    (tsSeq (tsAsg (tLc (tiAny (tBin qGet (tVar 3) (tVar 5))) (hN 17) (tTest (tBin qEq (tBin qGet (tVar 17) (tC (.int 0))) (tC (.str "read")))) (tBin qGet (tVar 17) (tC (.int 1))) [17]) (hN 12))
    (tsSeq (tsAsg (tLc (tiAny (tBin qGet (tVar 3) (tVar 5))) (hN 17) (tbAnd (tTest (tBin qEq (tBin qGet (tVar 17) (tC (.int 0))) (tC (.str "write")))) (tTest (tBin qIn (tBin qGet (tVar 17) (tC (.int 1))) (tVar 12)))) (tVar 17) [17]) (hN 13))
    (tsSeq (tsAsg (tCall 2 (c .f_goes_twice) (tCons (tVar 1) (tCons (tVar 6) tNil))) (hN 11))
    (tsSeq (tsAsg (tAndV (tBin qEq (tVar 13) (tLst tNil)) (tAndV (tBin qNotIn (tTup (tCons (tC (.str "say")) tNil)) (tBin qGet (tVar 3) (tVar 5))) (tBin qNotIn (tTup (tCons (tC (.str "ask")) tNil)) (tBin qGet (tVar 3) (tVar 5))))) (hN 14))
    (tsIf (tbOr (tbNot (tTest (tIsi "bool" (tVar 11)))) (tTest (tBin qNe (tVar 11) (tVar 14)))) (tsRet (tC (.bl false))) tsNil)))))))
    (tsSeq (tsAsg (tCall 2 (c .f_all_may_go) (tCons (tVar 1) (tCons (tVar 2) tNil))) (hN 11))
    (tsRet (tAndV (tBin qEq (tCall 2 (c .f_clashing) (tCons (tVar 1) (tCons (tVar 2) tNil))) (tVar 4)) (tAndV (tIsi "bool" (tVar 11)) (tBin qEq (tVar 11) (tBin qEq (tVar 4) (tLst tNil))))))))))))
theorem lst_f_law (c c2 : CF → Fn) (l l2 : LF → Fn) : SndS none none (b_f_law c c2 l l2) (lt_f_law (fun g => tv (c g)) (fun g => tv (l g)) (ov c) (ov c2)) := by
  unfold b_f_law lt_f_law
  exact (ss_seq (ss_asg (snd_call (tv_T _) (snd_cons snd_var (snd_cons snd_int snd_nil))) (sg_name 1))
    (ss_seq (ss_asg (snd_lc (si_range1 (snd_call (tv_T _) (snd_cons snd_var (snd_cons snd_int (snd_cons snd_int snd_nil))))) (sg_name 15) snd_yes (snd_call (tv_T _) (snd_cons snd_var (snd_cons (snd_bin sq_add snd_int (snd_bin sq_mul snd_int snd_var)) (snd_cons snd_int (snd_cons snd_var snd_nil)))))) (sg_name 2))
    (ss_seq (ss_asg (snd_lc (si_any snd_var) (sg_name 16) snd_yes (snd_call (tv_T _) (snd_cons snd_var (snd_cons snd_var snd_nil)))) (sg_name 3))
    (ss_seq (ss_own 4 (snd_lst snd_nil) (fresh_lst snd_nil))
    (ss_seq (ss_rel (ss_for (si_enumA (snd_var (j := some 4) (i := 2))) (sg_tup (sg_cons (sg_name (j := some 4) 5) (sg_cons (sg_name (j := some 4) 6) sg_nil))) (ss_seq (ss_for (si_enumA (snd_var (j := some 4) (i := 2))) (sg_tup (sg_cons (sg_name (j := some 4) 7) (sg_cons (sg_name (j := some 4) 8) sg_nil))) (ss_seq (ss_asg (snd_call (tv_T _) (snd_cons (snd_bin sq_get (snd_var (j := some 4) (i := 3)) (snd_var (j := some 4) (i := 5))) (snd_cons (snd_bin sq_get (snd_var (j := some 4) (i := 3)) (snd_var (j := some 4) (i := 7))) snd_nil))) (sg_name (j := some 4) 9))
    (ss_seq (ss_asg (snd_call (tv_T _) (snd_cons (snd_var (j := some 4) (i := 1)) (snd_cons (snd_var (j := some 4) (i := 6)) (snd_cons (snd_var (j := some 4) (i := 8)) snd_nil)))) (sg_name (j := some 4) 10))
    (ss_seq (ss_asg (snd_call (tv_T _) (snd_cons (snd_var (j := some 4) (i := 1)) (snd_cons (snd_var (j := some 4) (i := 6)) (snd_cons (snd_var (j := some 4) (i := 8)) snd_nil)))) (sg_name (j := some 4) 11))
    (ss_seq (ss_if (snd_or (snd_not (snd_test (snd_isi (snd_var (j := some 4) (i := 10))))) (snd_or (snd_test (snd_bin sq_ne (snd_var (j := some 4) (i := 10)) (snd_var (j := some 4) (i := 9)))) (snd_or (snd_not (snd_test (snd_isi (snd_var (j := some 4) (i := 11))))) (snd_test (snd_bin sq_ne (snd_var (j := some 4) (i := 11)) (snd_bin sq_eq (snd_var (j := some 4) (i := 9)) (snd_lst snd_nil))))))) (ss_ret snd_bl) ss_nil)
    (ss_if (snd_and (snd_test (snd_bin sq_int (snd_var (j := some 4) (i := 5)) (snd_var (j := some 4) (i := 7)))) (snd_test (snd_bin sq_ne (snd_var (j := some 4) (i := 9)) (snd_lst snd_nil)))) (ss_app (snd_tup (snd_cons (snd_var (j := some 4) (i := 5)) (snd_cons (snd_var (j := some 4) (i := 7)) snd_nil)))) ss_nil))))))
    (ss_seq (ss_asg (snd_lc (si_any (snd_bin sq_get (snd_var (j := some 4) (i := 3)) (snd_var (j := some 4) (i := 5)))) (sg_name (j := some 4) 17) (snd_test (snd_bin sq_eq (snd_bin sq_get (snd_var (j := some 4) (i := 17)) snd_int) snd_str)) (snd_bin sq_get (snd_var (j := some 4) (i := 17)) snd_int)) (sg_name (j := some 4) 12))
    (ss_seq (ss_asg (snd_lc (si_any (snd_bin sq_get (snd_var (j := some 4) (i := 3)) (snd_var (j := some 4) (i := 5)))) (sg_name (j := some 4) 17) (snd_and (snd_test (snd_bin sq_eq (snd_bin sq_get (snd_var (j := some 4) (i := 17)) snd_int) snd_str)) (snd_test (snd_bin sq_in (snd_bin sq_get (snd_var (j := some 4) (i := 17)) snd_int) (snd_var (j := some 4) (i := 12))))) (snd_var (j := some 4) (i := 17))) (sg_name (j := some 4) 13))
    (ss_seq (ss_asg (snd_call (tv_T _) (snd_cons (snd_var (j := some 4) (i := 1)) (snd_cons (snd_var (j := some 4) (i := 6)) snd_nil))) (sg_name (j := some 4) 11))
    (ss_seq (ss_asg (snd_andV (snd_bin sq_eq (snd_var (j := some 4) (i := 13)) (snd_lst snd_nil)) (snd_andV (snd_bin sq_notIn (snd_tup (snd_cons snd_str snd_nil)) (snd_bin sq_get (snd_var (j := some 4) (i := 3)) (snd_var (j := some 4) (i := 5)))) (snd_bin sq_notIn (snd_tup (snd_cons snd_str snd_nil)) (snd_bin sq_get (snd_var (j := some 4) (i := 3)) (snd_var (j := some 4) (i := 5)))))) (sg_name (j := some 4) 14))
    (ss_if (snd_or (snd_not (snd_test (snd_isi (snd_var (j := some 4) (i := 11))))) (snd_test (snd_bin sq_ne (snd_var (j := some 4) (i := 11)) (snd_var (j := some 4) (i := 14))))) (ss_ret snd_bl) ss_nil))))))))
    (ss_seq (ss_asg (snd_call (tv_T _) (snd_cons snd_var (snd_cons snd_var snd_nil))) (sg_name 11))
    (ss_ret (snd_andV (snd_bin sq_eq (snd_call (tv_T _) (snd_cons snd_var (snd_cons snd_var snd_nil))) snd_var) (snd_andV (snd_isi snd_var) (snd_bin sq_eq snd_var (snd_bin sq_eq snd_var (snd_lst snd_nil))))))))))))
theorem lq_f_law {n : Nat} {ts : List T} {r : RT T} (e : trun 1 18 (lt_f_law (fun g => tv (csem (n + 1) g)) (fun g => tv (lsem (n + 1) g)) (ov (csem (n + 1))) (ov (csem n))) ts = r) (hr : r ≠ .bad) : tv (lsem (n + 2) .f_law) ts = r := tv_of (by rw [ls_f_law]; exact fn_T (lst_f_law _ _ _ _)) e hr
end Lk40

set_option Elab.async false
set_option linter.all false
set_option maxRecDepth 100000
set_option maxHeartbeats 1000000
namespace Lk40
open PySem DL
open KS (rise tLt sLt ord_tup ord_str mem_rise Rising rising_rise rising_one)
def hits (M : List (List Mk)) (a b : Nat) : Bool := decide (a < b) && !decide (clashM (M.getD a []) (M.getD b []) = [])
def row (M : List (List Mk)) (a j : Nat) : List (Nat × Nat) := ((List.range j).filter (hits M a)).map fun b => (a, b)
def acc (M : List (List Mk)) (k : Nat) : List (Nat × Nat) := (List.range k).flatMap fun a => row M a M.length
theorem row_succ (M : List (List Mk)) (a j : Nat) : row M a (j + 1) = row M a j ++ if hits M a j = true then [(a, j)] else [] := by
  unfold row
  rw [List.range_succ, List.filter_append, List.map_append]
  congr 1
  cases h : hits M a j <;> simp [List.filter_cons, h]
theorem acc_succ (M : List (List Mk)) (k : Nat) : acc M (k + 1) = acc M k ++ row M k M.length := by
  unfold acc
  rw [List.range_succ, List.flatMap_append]
  simp
theorem range_tail {p : Nat → Bool} {n a : Nat} (h : a < n) : (List.range n).filter (fun b => decide (a < b) && p b) = ((List.range (n - (a + 1))).filter (fun j => p (a + 1 + j))).map (fun j => a + 1 + j) := by
  obtain ⟨m, rfl⟩ : ∃ m, n = (a + 1) + m := ⟨n - (a + 1), by omega⟩
  rw [List.range_add, List.filter_append, List.filter_eq_nil_iff.mpr (fun b hb => by
    have : b < a + 1 := List.mem_range.mp hb
    simp; omega), List.nil_append, List.filter_map, Nat.add_sub_cancel_left]
  congr 1
  apply List.filter_congr
  intro j _
  have : decide (a < a + 1 + j) = true := decide_eq_true (by omega)
  simp only [Function.comp, this, Bool.true_and]
theorem cpl_rows (M : List (List Mk)) : ∀ (r pre : List (List Mk)), M = pre ++ r → cpl pre.length r = (List.range r.length).flatMap fun i => row M (pre.length + i) M.length
  | [], pre, e => rfl
  | x :: r, pre, e => by
    have ih := cpl_rows M r (pre ++ [x]) (by rw [e]; simp)
    have lm : M.length = pre.length + (r.length + 1) := by rw [e]; simp
    simp only [cpl, List.length_cons]
    rw [List.range_succ_eq_map, List.flatMap_cons, List.flatMap_map]
    have l1 : (pre ++ [x]).length = pre.length + 1 := by simp
    rw [l1] at ih
    congr 1
    · have gx : M.getD pre.length [] = x := by rw [e, List.getD_eq_getElem?_getD]; simp
      show _ = row M (pre.length + 0) M.length
      unfold row
      simp only [Nat.add_zero]
      have := range_tail (p := fun b => !decide (clashM (M.getD pre.length []) (M.getD b []) = [])) (n := M.length) (a := pre.length) (by omega)
      have h2 : (List.range M.length).filter (hits M pre.length) = _ := this
      rw [h2, List.map_map]
      have hn : M.length - (pre.length + 1) = r.length := by omega
      rw [hn]
      have hg : ∀ j, M.getD (pre.length + 1 + j) [] = r.getD j [] := fun j => by
        rw [e, List.getD_eq_getElem?_getD, List.getD_eq_getElem?_getD, List.getElem?_append_right (by omega), show pre.length + 1 + j - pre.length = j + 1 by omega, List.getElem?_cons_succ]
      simp only [gx, hg]
      rfl
    · rw [ih]
      congr 1
      funext i
      show row M (pre.length + 1 + i) _ = row M (pre.length + (i + 1)) _
      rw [show pre.length + 1 + i = pre.length + (i + 1) by omega]
theorem acc_cpl (M : List (List Mk)) : acc M M.length = cpl 0 M := by
  have := cpl_rows M M [] rfl
  rw [List.length_nil] at this
  rw [this]
  unfold acc
  simp
theorem allMay_cpl : ∀ (M : List (List Mk)) (k : Nat), allMayM M = decide (cpl k M = [])
  | [], k => rfl
  | x :: r, k => by
    have ih := allMay_cpl r (k + 1)
    simp only [allMayM, cpl]
    rw [ih, Bool.eq_iff_iff]
    simp only [Bool.and_eq_true, decide_eq_true_eq, List.append_eq_nil_iff, List.map_eq_nil_iff, List.filter_eq_nil_iff, List.all_eq_true, List.mem_range, Bool.not_eq_true', Bool.not_eq_true, decide_eq_false_iff_not, Decidable.not_not]
    constructor
    · rintro ⟨a, b⟩
      refine ⟨fun j hj => ?_, b⟩
      have : r.getD j [] ∈ r := by rw [List.getD_eq_getElem?_getD, List.getElem?_eq_getElem hj]; exact List.getElem_mem hj
      simpa using a _ this
    · rintro ⟨a, b⟩
      refine ⟨fun y hy => ?_, b⟩
      obtain ⟨j, hj, rfl⟩ := List.getElem_of_mem hy
      have := a j hj
      rw [List.getD_eq_getElem?_getD, List.getElem?_eq_getElem hj] at this
      simpa using this
def Bs (ns : List Int) (rs : List Rule) (ds : List Deed) (M : List (List Mk)) (c : List (Nat × Nat)) (z : List (Option T)) : TEnv := [some (tscr ns), some (encRsT rs), some (.lst (ds.map encT)), some (.lst (M.map lm)), some (.lst (c.map prT))] ++ z
noncomputable def inU : TSDen := (tsSeq (tsAsg (tCall 2 (tv (csem (229 + 1) .f__law_clash)) (tCons (tBin qGet (tVar 3) (tVar 5)) (tCons (tBin qGet (tVar 3) (tVar 7)) tNil))) (hN 9))
    (tsSeq (tsAsg (tCall 3 (tv (csem (229 + 1) .f_clash)) (tCons (tVar 1) (tCons (tVar 6) (tCons (tVar 8) tNil)))) (hN 10))
    (tsSeq (tsAsg (tCall 3 (tv (csem (229 + 1) .f_may_go)) (tCons (tVar 1) (tCons (tVar 6) (tCons (tVar 8) tNil)))) (hN 11))
    (tsSeq (tsIf (tbOr (tbNot (tTest (tIsi "list" (tVar 10)))) (tbOr (tTest (tBin qNe (tVar 10) (tVar 9))) (tbOr (tbNot (tTest (tIsi "bool" (tVar 11)))) (tTest (tBin qNe (tVar 11) (tBin qEq (tVar 9) (tLst tNil))))))) (tsRet (tC (.bl false))) tsNil)
    (tsIf (tbAnd (tTest (tBin qLt (tVar 5) (tVar 7))) (tTest (tBin qNe (tVar 9) (tLst tNil)))) (tsApp 4 (tTup (tCons (tVar 5) (tCons (tVar 7) tNil)))) tsNil)))))
section
variable {ns : List Int} {rs : List Rule} (R : RsM rs) {ds : List Deed} (hd : ∀ d ∈ ds, okD (szs rs) [] d ∧ dep d ≤ 9) (hl : ds.length ≤ 4)
include R hd hl
theorem inner {a : Nat} {d : Deed} (ha : ds[a]? = some d) {c : List (Nat × Nat)} (hc : c.length ≤ 100) (z : List (Option T)) (hz : z.length = 11) : Nx (fun τ => ∃ z, z.length = 11 ∧ τ = Bs ns rs ds (ds.map fun d => mkD (rmk rs) d) (c ++ row (ds.map fun d => mkD (rmk rs) d) a ds.length) (some (.int (a : Nat)) :: some (encT d) :: z)) (tForL (hT 2 (hsCons (hN 7) (hsCons (hN 8) hsNil))) inU (numT 0 (ds.map encT)) (Bs ns rs ds (ds.map fun d => mkD (rmk rs) d) c (some (.int (a : Nat)) :: some (encT d) :: z))) := by
  have ho := R.ok
  have hdm := List.mem_of_getElem? ha
  have key := t_forK (I := fun j τ => ∃ z : List (Option T), z.length = 11 ∧ τ = Bs ns rs ds (ds.map fun d => mkD (rmk rs) d) (c ++ row (ds.map fun d => mkD (rmk rs) d) a j) (some (.int (a : Nat)) :: some (encT d) :: z)) (g := hT 2 (hsCons (hN 7) (hsCons (hN 8) hsNil))) (u := inU) (ts := numT 0 (ds.map encT)) (τ := Bs ns rs ds (ds.map fun d => mkD (rmk rs) d) c (some (.int (a : Nat)) :: some (encT d) :: z)) 0 (fun j t ht τ hI => ?_) ⟨z, hz, by simp [row]⟩
  · rw [num_len, List.length_map, Nat.zero_add] at key
    exact key
  · simp only [Nat.zero_add] at hI ⊢
    obtain ⟨z, hz, rfl⟩ := hI
    obtain ⟨u, hu, rfl⟩ := num_at ht
    rw [List.getElem?_map] at hu
    obtain ⟨e, he, rfl⟩ : ∃ e, ds[j]? = some e ∧ encT e = u := by
      cases h : ds[j]? with
      | none => rw [h] at hu; cases hu
      | some e => rw [h] at hu; exact ⟨e, rfl, by injection hu⟩
    have hem := List.mem_of_getElem? he
    have hjl : j < ds.length := by
      rcases Nat.lt_or_ge j ds.length with q | q
      · exact q
      · rw [List.getElem?_eq_none q] at he; cases he
    obtain ⟨z7, z8, z9, z10, z11, z12, z13, z14, z15, z16, z17, rfl⟩ : ∃ a b c d e f g h i j k, z = [a, b, c, d, e, f, g, h, i, j, k] := by
      match z, hz with
      | [a, b, c, d, e, f, g, h, i, j, k], _ => exact ⟨a, b, c, d, e, f, g, h, i, j, k, rfl⟩
    have ma : (ds.map fun d => mkD (rmk rs) d)[a]? = some (mkD (rmk rs) d) := by rw [List.getElem?_map, ha]; rfl
    have mj : (ds.map fun d => mkD (rmk rs) d)[j]? = some (mkD (rmk rs) e) := by rw [List.getElem?_map, he]; rfl
    have ga := getM ma
    have gj := getM mj
    have hits1 : hits (ds.map fun d => mkD (rmk rs) d) a j = (decide (a < j) && !decide (clashM (mkD (rmk rs) d) (mkD (rmk rs) e) = [])) := by
      unfold hits
      rw [List.getD_eq_getElem?_getD, List.getD_eq_getElem?_getD, ma, mj]
      rfl
    have rl : (row (ds.map fun d => mkD (rmk rs) d) a j).length ≤ 4 := by
      unfold row
      rw [List.length_map]
      have := List.length_filter_le (hits (ds.map fun d => mkD (rmk rs) d) a) (List.range j)
      rw [List.length_range] at this
      omega
    have rsu := row_succ (ds.map fun d => mkD (rmk rs) d) a j
    rw [hits1] at rsu
    generalize row (ds.map fun d => mkD (rmk rs) d) a j = rw0 at rl rsu
    have lc := lawclash_T (mk_in ho (hd d hdm).1) (mk_in ho (hd e hem).1) (mk_len ho (hd d hdm).1) (mk_len ho (hd e hem).1) (mk_okK ho (hd d hdm).1) (mk_okK ho (hd e hem).1) (n := 230) (by decide)
    have cl := clash_T R (hd d hdm).1 (hd e hem).1 (hd d hdm).2 (hd e hem).2 (n := 230) (by decide)
    have my := may_T R (hd d hdm).1 (hd e hem).1 (hd d hdm).2 (hd e hem).2 (n := 230) (by decide)
    have sk := clash_sok (xs := mkD (rmk rs) d) (ys := mkD (rmk rs) e) (mk_in ho (hd d hdm).1)
    generalize (ds.map fun d => mkD (rmk rs) d) = M at *
    generalize mkD (rmk rs) d = X at *
    generalize mkD (rmk rs) e = Y at *
    generalize clashM X Y = C at *
    refine ⟨Bs ns rs ds M (c ++ rw0) [some (.int (a : Nat)), some (encT d), some (.int (j : Nat)), some (encT e), z9, z10, z11, z12, z13, z14, z15, z16, z17], by simp [Bs], ?_⟩
    have en := eqNil sk
    unfold inU Bs
    refine nx_eq (t_asg (t := .lst (C.map T.str)) (by simp [ga, gj, lc]) rfl rfl) ?_
    refine nx_eq (t_asg (t := .lst (C.map T.str)) (by simp [cl]) rfl rfl) ?_
    refine nx_eq (t_asg (t := .bl (decide (C = []))) (by simp [my]) rfl rfl) ?_
    simp only [List.cons_append, List.nil_append, List.set_cons_succ, List.set_cons_zero]
    refine nx_eq (t_skip (or_f (not_f (isi_list rfl)) (or_f (ne_st rfl rfl rfl sk) (or_f (not_f (isi_bool rfl)) (ne_bl (a := decide (C = [])) (b := decide (C = [])) rfl ?_ rfl)))) rfl) ?_
    · simp [en]
    have cond : (tbAnd (tTest (tBin qLt (tVar 5) (tVar 7))) (tTest (tBin qNe (tVar 9) (tLst tNil)))) [some (tscr ns), some (encRsT rs), some (.lst (ds.map encT)), some (.lst (M.map lm)), some (.lst ((c ++ rw0).map prT)), some (.int (a : Nat)), some (encT d), some (.int (j : Nat)), some (encT e), some (.lst (C.map T.str)), some (.lst (C.map T.str)), some (.bl (decide (C = []))), z12, z13, z14, z15, z16, z17] = .ok (decide (a < j) && !decide (C = [])) := by
      have nn : qNe (.lst (C.map T.str)) (.lst []) = .ok (.bl (!decide (C = []))) := by
        by_cases q : C = []
        · subst q; exact qNe_same (FineK.lst (k := 37) (.nil _)) rfl
        · rw [decide_eq_false q]
          exact qNe_not (fine_strs sk) (FineK.lst (k := 37) (.nil _)) (fun h => by injection h with h; exact q (List.map_eq_nil_iff.mp h))
      by_cases q : a < j <;> simp [nn, q]
    refine nx_if cond ?_
    cases hb : (decide (a < j) && !decide (C = [])) with
    | true =>
      rw [if_pos rfl]
      rw [hb, if_pos rfl] at rsu
      refine nx_end (app_L (i := 4) (ts := (c ++ rw0).map prT) (t := prT (a, j)) rfl (by simp [prT]) (by simp; omega)) ⟨[some (.int (j : Nat)), some (encT e), some (.lst (C.map T.str)), some (.lst (C.map T.str)), some (.bl (decide (C = []))), z12, z13, z14, z15, z16, z17], rfl, ?_⟩
      rw [rsu]
      simp
    | false =>
      rw [if_neg (by decide)]
      rw [hb, if_neg (by decide), List.append_nil] at rsu
      refine nx_end rfl ⟨[some (.int (j : Nat)), some (encT e), some (.lst (C.map T.str)), some (.lst (C.map T.str)), some (.bl (decide (C = []))), z12, z13, z14, z15, z16, z17], rfl, ?_⟩
      rw [rsu]
end
def again (X : List Mk) : List Mk := X.filter fun m => decide (m.headD ("" : Str) = ("write" : Str)) && decide (m.getD 1 ("" : Str) ∈ shOf "read" X)
def plain2 (X : List Mk) : Bool := decide (again X = []) && (!decide (mS ∈ X) && !decide (mA ∈ X))
theorem goes_plain {l : List Mk} (h : ∀ m ∈ l, m ∈ allM) : goesM l = plain2 l := by
  rw [Bool.eq_iff_iff, goes_iff h]
  unfold plain2 again
  simp only [Bool.and_eq_true, decide_eq_true_eq, Bool.not_eq_true', decide_eq_false_iff_not, List.filter_eq_nil_iff]
  constructor
  · rintro ⟨a, b, c⟩
    refine ⟨fun m hm ⟨h1, h2⟩ => ?_, a, b⟩
    have e := two_form (.inr rfl) m (h m hm) h1
    exact c (m.getD 1 ("" : Str)) (by have e2 : mW (m.getD 1 ("" : Str)) = m := e.symm; rw [e2]; exact hm) ((mem_shOf h (.inl rfl)).mp h2)
  · rintro ⟨c, a, b⟩
    exact ⟨a, b, fun x hw hr => c (mW x) hw ⟨rfl, (mem_shOf h (.inl rfl)).mpr hr⟩⟩
noncomputable def outU : TSDen := (tsSeq (tsFor (tiEnumA (tVar 2)) (hT 2 (hsCons (hN 7) (hsCons (hN 8) hsNil))) inU)
    (tsSeq (tsAsg (tLc (tiAny (tBin qGet (tVar 3) (tVar 5))) (hN 17) (tTest (tBin qEq (tBin qGet (tVar 17) (tC (.int 0))) (tC (.str "read")))) (tBin qGet (tVar 17) (tC (.int 1))) [17]) (hN 12))
    (tsSeq (tsAsg (tLc (tiAny (tBin qGet (tVar 3) (tVar 5))) (hN 17) (tbAnd (tTest (tBin qEq (tBin qGet (tVar 17) (tC (.int 0))) (tC (.str "write")))) (tTest (tBin qIn (tBin qGet (tVar 17) (tC (.int 1))) (tVar 12)))) (tVar 17) [17]) (hN 13))
    (tsSeq (tsAsg (tCall 2 (tv (csem (229 + 1) .f_goes_twice)) (tCons (tVar 1) (tCons (tVar 6) tNil))) (hN 11))
    (tsSeq (tsAsg (tAndV (tBin qEq (tVar 13) (tLst tNil)) (tAndV (tBin qNotIn (tTup (tCons (tC (.str "say")) tNil)) (tBin qGet (tVar 3) (tVar 5))) (tBin qNotIn (tTup (tCons (tC (.str "ask")) tNil)) (tBin qGet (tVar 3) (tVar 5))))) (hN 14))
    (tsIf (tbOr (tbNot (tTest (tIsi "bool" (tVar 11)))) (tTest (tBin qNe (tVar 11) (tVar 14)))) (tsRet (tC (.bl false))) tsNil))))))
section
variable {ns : List Int} {rs : List Rule} (R : RsM rs) {ds : List Deed} (hd : ∀ d ∈ ds, okD (szs rs) [] d ∧ dep d ≤ 9) (hl : ds.length ≤ 4)
include R hd hl
theorem outer (z : List (Option T)) (hz : z.length = 13) : Nx (fun τ => ∃ z, z.length = 13 ∧ τ = Bs ns rs ds (ds.map fun d => mkD (rmk rs) d) (acc (ds.map fun d => mkD (rmk rs) d) ds.length) z) (tForL (hT 2 (hsCons (hN 5) (hsCons (hN 6) hsNil))) outU (numT 0 (ds.map encT)) (Bs ns rs ds (ds.map fun d => mkD (rmk rs) d) [] z)) := by
  have ho := R.ok
  have key := t_forK (I := fun j τ => ∃ z : List (Option T), z.length = 13 ∧ τ = Bs ns rs ds (ds.map fun d => mkD (rmk rs) d) (acc (ds.map fun d => mkD (rmk rs) d) j) z) (g := hT 2 (hsCons (hN 5) (hsCons (hN 6) hsNil))) (u := outU) (ts := numT 0 (ds.map encT)) (τ := Bs ns rs ds (ds.map fun d => mkD (rmk rs) d) [] z) 0 (fun j t ht τ hI => ?_) ⟨z, hz, by simp [acc]⟩
  · rw [num_len, List.length_map, Nat.zero_add] at key
    exact key
  · simp only [Nat.zero_add] at hI ⊢
    obtain ⟨z, hz, rfl⟩ := hI
    obtain ⟨u, hu, rfl⟩ := num_at ht
    rw [List.getElem?_map] at hu
    obtain ⟨d, he, rfl⟩ : ∃ e, ds[j]? = some e ∧ encT e = u := by
      cases h : ds[j]? with
      | none => rw [h] at hu; cases hu
      | some e => rw [h] at hu; exact ⟨e, rfl, by injection hu⟩
    have hem := List.mem_of_getElem? he
    have hjl : j < ds.length := by
      rcases Nat.lt_or_ge j ds.length with q | q
      · exact q
      · rw [List.getElem?_eq_none q] at he; cases he
    obtain ⟨z5, z6, zr, rfl⟩ : ∃ a b r, z = a :: b :: r := by
      match z, hz with
      | a :: b :: r, _ => exact ⟨a, b, r, rfl⟩
    have hzr : zr.length = 11 := by simpa using hz
    have al : (acc (ds.map fun d => mkD (rmk rs) d) j).length ≤ 100 := by
      have h2 : ∀ a, (row (ds.map fun d => mkD (rmk rs) d) a (ds.map fun d => mkD (rmk rs) d).length).length ≤ 4 := fun a => by
        unfold row
        rw [List.length_map]
        have := List.length_filter_le (hits (ds.map fun d => mkD (rmk rs) d) a) (List.range (ds.map fun d => mkD (rmk rs) d).length)
        rw [List.length_range] at this
        have h5 : (ds.map fun d => mkD (rmk rs) d).length ≤ 4 := by rw [List.length_map]; exact hl
        omega
      have h3 : ∀ k, (acc (ds.map fun d => mkD (rmk rs) d) k).length ≤ 4 * k := fun k => by
        induction k with
        | zero => simp [acc]
        | succ k ih => rw [acc_succ, List.length_append]; have := h2 k; omega
      have := h3 j
      omega
    have inn := inner R hd hl (ns := ns) he (c := acc (ds.map fun d => mkD (rmk rs) d) j) al zr hzr
    have asu := acc_succ (ds.map fun d => mkD (rmk rs) d) j
    rw [List.length_map] at asu
    rw [← asu] at inn
    have mj : (ds.map fun d => mkD (rmk rs) d)[j]? = some (mkD (rmk rs) d) := by rw [List.getElem?_map, he]; rfl
    have gj := getM mj
    have iX := mk_in ho (hd d hem).1
    have lX := mk_len ho (hd d hem).1
    have gs := goes_T R (hd d hem).1 (hd d hem).2 (n := 230) (by decide)
    have sa := shOf_abcd ho (hd d hem).1 (w := "read") (.inl rfl)
    rw [goes_plain iX] at gs
    generalize (ds.map fun d => mkD (rmk rs) d) = M at *
    generalize mkD (rmk rs) d = X at *
    have ix : (((0 + j : Nat)) : Int) = ((j : Nat) : Int) := by rw [Nat.zero_add]
    refine ⟨Bs ns rs ds M (acc M j) (some (.int (j : Nat)) :: some (encT d) :: zr), by simp [Bs], ?_⟩
    unfold outU
    refine nx_seq (nx_for (ts := numT 0 (ds.map encT)) rfl inn) fun τ hI => ?_
    obtain ⟨z, hz, rfl⟩ := hI
    obtain ⟨z7, z8, z9, z10, z11, z12, z13, z14, z15, z16, z17, rfl⟩ : ∃ a b c d e f g h i j k, z = [a, b, c, d, e, f, g, h, i, j, k] := by
      match z, hz with
      | [a, b, c, d, e, f, g, h, i, j, k], _ => exact ⟨a, b, c, d, e, f, g, h, i, j, k, rfl⟩
    unfold Bs
    simp only [List.cons_append, List.nil_append]
    have c1 := t_lc (τ := [some (tscr ns), some (encRsT rs), some (.lst (ds.map encT)), some (.lst (M.map lm)), some (.lst ((acc M (j + 1)).map prT)), some (.int (j : Nat)), some (encT d), z7, z8, z9, z10, z11, z12, z13, z14, z15, z16, z17]) (it := tiAny (tBin qGet (tVar 3) (tVar 5))) (g := hN 17) (c := tTest (tBin qEq (tBin qGet (tVar 17) (tC (.int 0))) (tC (.str "read")))) (e := tBin qGet (tVar 17) (tC (.int 1))) (vs := [17])
      (l := X) (m := unX) (k := fun m => decide (m.headD ("" : Str) = ("read" : Str))) (f := fun m => .str (m.getD 1 ("" : Str))) (ti_any (l := lm X) (by simp [gj]) (.inl rfl)) (fun m hm => ⟨_, rfl, by
        have hh := unX_head (allM_ne m (iX m hm))
        simp [twipe, hh], fun hw => by
        have g1 := unX_two (allM_two.1 m (iX m hm) (of_decide_eq_true hw))
        simp [twipe, g1]⟩) (by omega)
    have e1 : (X.filter fun m => decide (m.headD ("" : Str) = ("read" : Str))).map (fun m => T.str (m.getD 1 ("" : Str))) = (shOf "read" X).map T.str := by
      unfold shOf
      rw [List.map_map]
      rfl
    rw [e1] at c1
    refine nx_eq (t_asg c1 rfl rfl) ?_
    simp only [List.set_cons_succ, List.set_cons_zero]
    have c2 := t_lc (τ := [some (tscr ns), some (encRsT rs), some (.lst (ds.map encT)), some (.lst (M.map lm)), some (.lst ((acc M (j + 1)).map prT)), some (.int (j : Nat)), some (encT d), z7, z8, z9, z10, z11, some (.lst ((shOf "read" X).map T.str)), z13, z14, z15, z16, z17]) (it := tiAny (tBin qGet (tVar 3) (tVar 5))) (g := hN 17) (c := tbAnd (tTest (tBin qEq (tBin qGet (tVar 17) (tC (.int 0))) (tC (.str "write")))) (tTest (tBin qIn (tBin qGet (tVar 17) (tC (.int 1))) (tVar 12)))) (e := tVar 17) (vs := [17])
      (l := X) (m := unX) (k := fun m => decide (m.headD ("" : Str) = ("write" : Str)) && decide (m.getD 1 ("" : Str) ∈ shOf "read" X)) (f := unX) (ti_any (l := lm X) (by simp [gj]) (.inl rfl)) (fun m hm => ⟨_, rfl, by
        have hh := unX_head (allM_ne m (iX m hm))
        by_cases hw : m.headD ("" : Str) = ("write" : Str)
        · have g1 := unX_two (allM_two.2 m (iX m hm) hw)
          have fl : FineL 37 ((shOf "read" X).map T.str) := .all fun t ht => by
            obtain ⟨y, hy, rfl⟩ := List.mem_map.mp ht
            exact .str 37 (sok_abcd y (sa y hy))
          have sm : sok (m.getD 1 ("" : Str)) = true := sok_all m (iX m hm) _ (getD1_mem (allM_two.2 m (iX m hm) hw))
          simp only [te_and, te_test, te_bin, te_C, twipe]
          rw [te_V (t := unX m) rfl, te_V (t := .lst ((shOf "read" X).map T.str)) rfl]
          simp only [RT.bind_ok, hh, g1, q_eqS, asB_bl, qIn_fine (.str 38 sm) fl (.inl rfl), hw, decide_true, Bool.true_and, if_true]
          congr 1
          exact decide_eq_decide.mpr str_map_mem
        · simp only [te_and, te_test, te_bin, te_C, twipe]
          rw [te_V (t := unX m) rfl]
          simp only [RT.bind_ok, hh, q_eqS, asB_bl, decide_eq_false hw, Bool.false_and]
          rfl, fun _ => by simp [twipe]⟩) (by omega)
    refine nx_eq (t_asg (t := lm (again X)) c2 rfl rfl) ?_
    refine nx_eq (t_asg (t := .bl (plain2 X)) (by simp [gs]) rfl rfl) ?_
    simp only [List.set_cons_succ, List.set_cons_zero]
    have qs : qNotIn (.tup [.str "say"]) (lm X) = .ok (.bl (!decide (mS ∈ X))) := qNotIn_lm (m := mS) (by simp [mS, sok_rw]) iX
    have qa : qNotIn (.tup [.str "ask"]) (lm X) = .ok (.bl (!decide (mA ∈ X))) := qNotIn_lm (m := mA) (by simp [mA, sok_rw]) iX
    refine nx_eq (t_asg (t := .bl (plain2 X)) ?_ rfl rfl) ?_
    · have eq1 : qEq (lm (again X)) (.lst []) = .ok (.bl (decide (again X = []))) := by
        rw [qEq_fine (fine_lm (l := again X) (fun m hm => iX m (List.mem_filter.mp hm).1)) (FineK.lst (k := 37) (.nil _))]
        congr 2
        classical
        exact decide_eq_decide.mpr ⟨fun h => by unfold lm at h; injection h with h; exact List.map_eq_nil_iff.mp h, fun h => by rw [h]; rfl⟩
      unfold plain2 tAndV
      simp only [te_bin, te_tup, te_lst, te_cons, te_nil, te_C]
      rw [te_V (t := lm (again X)) rfl, te_V (t := .lst (M.map lm)) rfl, te_V (t := .int (j : Nat)) rfl]
      simp only [RT.bind_ok, List.length_cons, List.length_nil, Nat.zero_add, okB_0, okB_1, if_true, gj, qs, qa, eq1]
      cases decide (again X = []) <;> cases decide (mS ∈ X) <;> rfl
    simp only [List.set_cons_succ, List.set_cons_zero]
    refine nx_if (b := false) (or_f (not_f (isi_bool rfl)) (ne_bl (a := plain2 X) (b := plain2 X) rfl rfl rfl)) ?_
    rw [if_neg (by decide)]
    exact nx_end rfl ⟨_, rfl, rfl⟩
end
theorem law_T (ns : List Int) (hl : ns.length ≤ 63) : tv (lsem 231 .f_law) [tscr ns] = .ok (.bl true) := by
  obtain ⟨rs, R, e1⟩ := rules_T (ns := ns) (t := 1) 230 hl (by decide)
  have e7 := drawn_T 230 ns 60 5 (by decide) (by decide) hl
  have lo := drw_lo ns 60 (m := 5) (by decide)
  have hi := drw_hi ns 60 (m := 5) (by decide)
  obtain ⟨N, hN⟩ : ∃ N : Nat, drw ns 60 5 = (N : Nat) := ⟨(drw ns 60 5).toNat, by omega⟩
  rw [hN] at e7 lo hi
  obtain ⟨f, hf⟩ : ∃ f : Nat → Deed, ∀ k, tv (csem 230 .f__law_light) [tscr ns, .int (90 + 31 * (k : Nat)), .int 2, encRsT rs] = .ok (encT (f k)) ∧ okD (szs rs) [] (f k) ∧ dep (f k) ≤ 9 := by
    have : ∀ k : Nat, ∃ d, tv (csem 230 .f__law_light) [tscr ns, .int (90 + 31 * (k : Nat)), .int 2, encRsT rs] = .ok (encT d) ∧ okD (szs rs) [] d ∧ dep d ≤ 9 := fun k => by
      obtain ⟨d, e, o, p, w⟩ := light_T (ns := ns) (t := 90 + 31 * (k : Nat)) (dd := 2) 230 hl (by omega) R 2 (by decide)
      exact ⟨d, e, o, by omega⟩
    exact ⟨fun k => Classical.choose (this k), fun k => Classical.choose_spec (this k)⟩
  obtain ⟨ds, hds⟩ : ∃ ds : List Deed, ds = (List.range N).map f := ⟨_, rfl⟩
  have hd : ∀ d ∈ ds, okD (szs rs) [] d ∧ dep d ≤ 9 := fun d h => by
    rw [hds] at h
    obtain ⟨k, _, rfl⟩ := List.mem_map.mp h
    exact (hf k).2
  have h4 : ds.length ≤ 4 := by rw [hds]; simp; omega
  have ho := R.r.ok
  refine lq_f_law (n := 229) ?_ (by simp)
  refine t_run rfl ?_
  unfold lt_f_law
  refine t_asg (t := encRsT rs) (by simp [e1]) rfl ?_
  refine t_asg (t := .lst (ds.map encT)) ?_ rfl ?_
  · rw [hds, List.map_map]
    refine (t_lcA (l := List.range N) (f := encT ∘ f) (ti_range1 (n := N) (by simp [e7]) (by omega)) (fun k hk => ⟨_, rfl, ?_⟩) (by simp; omega))
    simp [twipe, mul31, (hf k).1]
  simp only [List.map_cons, List.map_nil, List.cons_append, List.nil_append, List.replicate, Nat.reduceSub, List.set_cons_succ, List.set_cons_zero]
  refine t_asg (t := .lst ((ds.map fun d => mkD (rmk rs) d).map lm)) ?_ rfl ?_
  · rw [List.map_map]
    exact t_lcA (l := ds) (m := encT) (f := lm ∘ fun d => mkD (rmk rs) d) (ti_any rfl (.inl rfl)) (fun d hdm => ⟨_, rfl, by
      have := lmarks_T R (hd d hdm).1 (by have := (hd d hdm).2; omega) (n := 230) (by have := (hd d hdm).2; omega)
      simp [twipe, this]⟩) (by omega)
  refine t_own (t := .lst []) (by simp) (by simp) ?_
  simp only [List.set_cons_succ, List.set_cons_zero]
  obtain ⟨τ, eo, z, hz, rfl⟩ := outer R.m hd h4 (ns := ns) (List.replicate 13 none) rfl
  refine t_seq (t_for (ts := numT 0 (ds.map encT)) rfl eo) ?_
  have am := all_may_T R.m hd (by omega) (n := 230) (by decide)
  have cg := clashing_T R.m hd (by omega) (n := 230) (by decide)
  have ac := acc_cpl (ds.map fun d => mkD (rmk rs) d)
  rw [List.length_map] at ac
  rw [ac]
  rw [allMay_cpl _ 0] at am
  generalize cpl 0 (ds.map fun d => mkD (rmk rs) d) = C at *
  obtain ⟨z5, z6, z7, z8, z9, z10, z11, z12, z13, z14, z15, z16, z17, rfl⟩ : ∃ a b c d e f g h i j k l m, z = [a, b, c, d, e, f, g, h, i, j, k, l, m] := by
    match z, hz with
    | [a, b, c, d, e, f, g, h, i, j, k, l, m], _ => exact ⟨a, b, c, d, e, f, g, h, i, j, k, l, m, rfl⟩
  unfold Bs
  refine t_asg (t := .bl (decide (C = []))) (by simp [am]) rfl ?_
  simp only [List.cons_append, List.nil_append, List.set_cons_succ, List.set_cons_zero]
  refine t_ret ?_
  have q1 : qEq (.lst (C.map prT)) (.lst (C.map prT)) = .ok (.bl true) := qEq_same (fine_prs C) rfl
  have q2 := eqNilP C
  have q3 : qEq (.bl (decide (C = []))) (.bl (decide (C = []))) = .ok (.bl true) := by rw [qEq_bl]; simp
  unfold tAndV
  rw [isi_bool (b := decide (C = [])) rfl]
  simp [cg, q1, q2, q3]
theorem law_true (ns : List Int) (hl : ns.length ≤ 63) : ∃ S, lsem 231 .f_law [.seq (ns.map D.int)] [] = .ok (.bl true) S := law_end (law_T ns hl)
end Lk40

set_option Elab.async false
set_option linter.all false
set_option maxRecDepth 100000
set_option maxHeartbeats 0
namespace Lk40
open PySem L2 DL
def top (i : Nat) : Stmt := PySem.Challenge.pw_shelfwork_k40_clashes.main.body.getD i (.Pass ⟨0, 0, 0, 0⟩)
inductive Fid where
  | f_parts_of
  | f_marks_of
  | f_once
  | f_call_marks
  | f_touches
  | f_is_met
  | f_clash
  | f_may_go
  | f_all_may_go
  | f_clashing
  | f_goes_twice
  | f__law_cell
  | f__law_drawn
  | f__law_leaf
  | f__law_deed
  | f__law_call
  | f__law_rules
  | f__law_marks
  | f__law_clash
  | f__law_weight
  | f__law_light
  | f_law
def np : Fid → Nat
  | .f_parts_of => 1
  | .f_marks_of => 2
  | .f_once => 1
  | .f_call_marks => 2
  | .f_touches => 2
  | .f_is_met => 2
  | .f_clash => 3
  | .f_may_go => 3
  | .f_all_may_go => 2
  | .f_clashing => 2
  | .f_goes_twice => 2
  | .f__law_cell => 2
  | .f__law_drawn => 3
  | .f__law_leaf => 3
  | .f__law_deed => 5
  | .f__law_call => 5
  | .f__law_rules => 2
  | .f__law_marks => 2
  | .f__law_clash => 2
  | .f__law_weight => 3
  | .f__law_light => 4
  | .f_law => 1
def sem (n : Nat) : Fid → Fn
  | .f_parts_of => csem n .f_parts_of
  | .f_marks_of => csem n .f_marks_of
  | .f_once => csem n .f_once
  | .f_call_marks => csem n .f_call_marks
  | .f_touches => csem n .f_touches
  | .f_is_met => csem n .f_is_met
  | .f_clash => csem n .f_clash
  | .f_may_go => csem n .f_may_go
  | .f_all_may_go => csem n .f_all_may_go
  | .f_clashing => csem n .f_clashing
  | .f_goes_twice => csem n .f_goes_twice
  | .f__law_cell => csem n .f__law_cell
  | .f__law_drawn => csem n .f__law_drawn
  | .f__law_leaf => csem n .f__law_leaf
  | .f__law_deed => csem n .f__law_deed
  | .f__law_call => csem n .f__law_call
  | .f__law_rules => csem n .f__law_rules
  | .f__law_marks => csem n .f__law_marks
  | .f__law_clash => csem n .f__law_clash
  | .f__law_weight => csem n .f__law_weight
  | .f__law_light => csem n .f__law_light
  | .f_law => lsem n .f_law
inductive Cid where
inductive Eid where
abbrev stm : Fid → Stmt
  | .f_parts_of => top 1
  | .f_marks_of => top 3
  | .f_once => top 4
  | .f_call_marks => top 5
  | .f_touches => top 6
  | .f_is_met => top 8
  | .f_clash => top 9
  | .f_may_go => top 10
  | .f_all_may_go => top 11
  | .f_clashing => top 12
  | .f_goes_twice => top 13
  | .f__law_cell => top 15
  | .f__law_drawn => top 16
  | .f__law_leaf => top 17
  | .f__law_deed => top 18
  | .f__law_call => top 19
  | .f__law_rules => top 20
  | .f__law_marks => top 23
  | .f__law_clash => top 24
  | .f__law_weight => top 25
  | .f__law_light => top 26
  | .f_law => top 27
abbrev nam : Fid → Str
  | .f_parts_of => "parts_of"
  | .f_marks_of => "marks_of"
  | .f_once => "once"
  | .f_call_marks => "call_marks"
  | .f_touches => "touches"
  | .f_is_met => "is_met"
  | .f_clash => "clash"
  | .f_may_go => "may_go"
  | .f_all_may_go => "all_may_go"
  | .f_clashing => "clashing"
  | .f_goes_twice => "goes_twice"
  | .f__law_cell => "_law_cell"
  | .f__law_drawn => "_law_drawn"
  | .f__law_leaf => "_law_leaf"
  | .f__law_deed => "_law_deed"
  | .f__law_call => "_law_call"
  | .f__law_rules => "_law_rules"
  | .f__law_marks => "_law_marks"
  | .f__law_clash => "_law_clash"
  | .f__law_weight => "_law_weight"
  | .f__law_light => "_law_light"
  | .f_law => "law"
abbrev qua : Fid → Str
  | .f_parts_of => "parts_of"
  | .f_marks_of => "marks_of"
  | .f_once => "once"
  | .f_call_marks => "call_marks"
  | .f_touches => "touches"
  | .f_is_met => "is_met"
  | .f_clash => "clash"
  | .f_may_go => "may_go"
  | .f_all_may_go => "all_may_go"
  | .f_clashing => "clashing"
  | .f_goes_twice => "goes_twice"
  | .f__law_cell => "_law_cell"
  | .f__law_drawn => "_law_drawn"
  | .f__law_leaf => "_law_leaf"
  | .f__law_deed => "_law_deed"
  | .f__law_call => "_law_call"
  | .f__law_rules => "_law_rules"
  | .f__law_marks => "_law_marks"
  | .f__law_clash => "_law_clash"
  | .f__law_weight => "_law_weight"
  | .f__law_light => "_law_light"
  | .f_law => "law"
abbrev pas : Fid → List Str
  | .f_parts_of => ["deed"]
  | .f_marks_of => ["rules", "deed"]
  | .f_once => ["marks"]
  | .f_call_marks => ["rules", "deed"]
  | .f_touches => ["rules", "deed"]
  | .f_is_met => ["mark", "marks"]
  | .f_clash => ["rules", "one", "other"]
  | .f_may_go => ["rules", "one", "other"]
  | .f_all_may_go => ["rules", "deeds"]
  | .f_clashing => ["rules", "deeds"]
  | .f_goes_twice => ["rules", "deed"]
  | .f__law_cell => ["_law_script", "_law_k"]
  | .f__law_drawn => ["_law_script", "_law_k", "_law_many"]
  | .f__law_leaf => ["_law_script", "_law_at", "_law_known"]
  | .f__law_deed => ["_law_script", "_law_at", "_law_deep", "_law_known", "_law_rules_here"]
  | .f__law_call => ["_law_script", "_law_at", "_law_deep", "_law_known", "_law_rules_here"]
  | .f__law_rules => ["_law_script", "_law_at"]
  | .f__law_marks => ["_law_rules_here", "_law_deed_here"]
  | .f__law_clash => ["_law_one", "_law_other"]
  | .f__law_weight => ["_law_rules_here", "_law_deed_here", "_law_handed"]
  | .f__law_light => ["_law_script", "_law_at", "_law_deep", "_law_rules_here"]
  | .f_law => ["_law_script"]
def cAl (ca : Cid → Addr) : List (Str × Addr) := []
def cA (ca : Cid → Addr) (c : Str) : Option Addr := (cAl ca).lookup c
def xA (ea : Eid → Addr) (c : Str) : Option Addr := ([] : List (Str × Addr)).lookup c
structure Tx (K : PySem.W.Frag) (mg : Str → Option Value) (fa : Fid → Addr) (fdt : Fid → FuncData) (ca : Cid → Addr) (ea : Eid → Addr) : Prop where
  fn : ∀ i, Fun K (nam i) (qua i) (stm i) (fa i) (fdt i)
  bd : ∀ i, Binds K (fdt i) (pas i) []
  cl : ∀ i, Cls K (ca i)
  xc : ∀ i, ExcC K (ea i)
  mg_f_parts_of : mg "parts_of" = some (.ref (fa .f_parts_of))
  kp_f_parts_of : PySem.W.keepIn K (.ref (fa .f_parts_of)) = true
  mg_f_marks_of : mg "marks_of" = some (.ref (fa .f_marks_of))
  kp_f_marks_of : PySem.W.keepIn K (.ref (fa .f_marks_of)) = true
  mg_f_once : mg "once" = some (.ref (fa .f_once))
  kp_f_once : PySem.W.keepIn K (.ref (fa .f_once)) = true
  mg_f_call_marks : mg "call_marks" = some (.ref (fa .f_call_marks))
  kp_f_call_marks : PySem.W.keepIn K (.ref (fa .f_call_marks)) = true
  mg_f_touches : mg "touches" = some (.ref (fa .f_touches))
  kp_f_touches : PySem.W.keepIn K (.ref (fa .f_touches)) = true
  mg_f_is_met : mg "is_met" = some (.ref (fa .f_is_met))
  kp_f_is_met : PySem.W.keepIn K (.ref (fa .f_is_met)) = true
  mg_f_clash : mg "clash" = some (.ref (fa .f_clash))
  kp_f_clash : PySem.W.keepIn K (.ref (fa .f_clash)) = true
  mg_f_may_go : mg "may_go" = some (.ref (fa .f_may_go))
  kp_f_may_go : PySem.W.keepIn K (.ref (fa .f_may_go)) = true
  mg_f_all_may_go : mg "all_may_go" = some (.ref (fa .f_all_may_go))
  kp_f_all_may_go : PySem.W.keepIn K (.ref (fa .f_all_may_go)) = true
  mg_f_clashing : mg "clashing" = some (.ref (fa .f_clashing))
  kp_f_clashing : PySem.W.keepIn K (.ref (fa .f_clashing)) = true
  mg_f_goes_twice : mg "goes_twice" = some (.ref (fa .f_goes_twice))
  kp_f_goes_twice : PySem.W.keepIn K (.ref (fa .f_goes_twice)) = true
  mg_f__law_cell : mg "_law_cell" = some (.ref (fa .f__law_cell))
  kp_f__law_cell : PySem.W.keepIn K (.ref (fa .f__law_cell)) = true
  mg_f__law_drawn : mg "_law_drawn" = some (.ref (fa .f__law_drawn))
  kp_f__law_drawn : PySem.W.keepIn K (.ref (fa .f__law_drawn)) = true
  mg_f__law_leaf : mg "_law_leaf" = some (.ref (fa .f__law_leaf))
  kp_f__law_leaf : PySem.W.keepIn K (.ref (fa .f__law_leaf)) = true
  mg_f__law_deed : mg "_law_deed" = some (.ref (fa .f__law_deed))
  kp_f__law_deed : PySem.W.keepIn K (.ref (fa .f__law_deed)) = true
  mg_f__law_call : mg "_law_call" = some (.ref (fa .f__law_call))
  kp_f__law_call : PySem.W.keepIn K (.ref (fa .f__law_call)) = true
  mg_f__law_rules : mg "_law_rules" = some (.ref (fa .f__law_rules))
  kp_f__law_rules : PySem.W.keepIn K (.ref (fa .f__law_rules)) = true
  mg_f__law_marks : mg "_law_marks" = some (.ref (fa .f__law_marks))
  kp_f__law_marks : PySem.W.keepIn K (.ref (fa .f__law_marks)) = true
  mg_f__law_clash : mg "_law_clash" = some (.ref (fa .f__law_clash))
  kp_f__law_clash : PySem.W.keepIn K (.ref (fa .f__law_clash)) = true
  mg_f__law_weight : mg "_law_weight" = some (.ref (fa .f__law_weight))
  kp_f__law_weight : PySem.W.keepIn K (.ref (fa .f__law_weight)) = true
  mg_f__law_light : mg "_law_light" = some (.ref (fa .f__law_light))
  kp_f__law_light : PySem.W.keepIn K (.ref (fa .f__law_light)) = true
  mg_f_law : mg "law" = some (.ref (fa .f_law))
  kp_f_law : PySem.W.keepIn K (.ref (fa .f_law)) = true
  z_all : mg "all" = none
  z_any : mg "any" = none
  z_bool : mg "bool" = none
  z_dict : mg "dict" = none
  z_enumerate : mg "enumerate" = none
  z_int : mg "int" = none
  z_isinstance : mg "isinstance" = none
  z_len : mg "len" = none
  z_list : mg "list" = none
  z_range : mg "range" = none
  z_set : mg "set" = none
  z_sorted : mg "sorted" = none
  z_sum : mg "sum" = none
  z_tuple : mg "tuple" = none
  z_zip : mg "zip" = none
section
variable {P : Program} {w : World} {K : PySem.W.Frag} {mg : Str → Option Value} {base : Heap} {fa : Fid → Addr} {fdt : Fid → FuncData} {ca : Cid → Addr} {ea : Eid → Addr}
abbrev Ok (P : Program) (w : World) (K : PySem.W.Frag) (mg : Str → Option Value) (base : Heap) (fa : Fid → Addr) (fdt : Fid → FuncData) (ca : Cid → Addr) (ea : Eid → Addr) (n : Nat) (i : Fid) : Prop := FnOk P w K mg base (L2.CX P w) n (fa i) (fdt i) (pas i) (spD ⟨K, cA ca, xA ea⟩ (np i) (sem n i))
theorem sc_f_parts_of : FnScope ["deed", "part"] (pas .f_parts_of) (defScope (stm .f_parts_of)) := ⟨rfl, rfl, rfl, by decide +kernel, rfl, by decide +kernel, by decide +kernel⟩
theorem ok_f_parts_of {n : Nat} (T : Tx K mg fa fdt ca ea) (ih : ∀ i, Ok P w K mg base fa fdt ca ea (n + 1) i) (ih2 : ∀ i, Ok P w K mg base fa fdt ca ea n i) : Ok P w K mg base fa fdt ca ea (n + 2) .f_parts_of := by
  show FnOk P w K mg base (L2.CX P w) (n + 1 + 1) (fa .f_parts_of) (fdt .f_parts_of) (pas .f_parts_of) (spD ⟨K, cA ca, xA ea⟩ 1 (runFn 1 2 (b_f_parts_of (csem (n + 1)) (csem n))))
  refine fn_ok (T := ⟨cA ca, xA ea⟩) (np := 1) (N := ["deed", "part"]) (b := b_f_parts_of (csem (n + 1)) (csem n)) (T.fn .f_parts_of) sc_f_parts_of rfl (fun cdv A outer s H E hr => ?_)
  unfold b_f_parts_of
  exact (pssd_cons (psd_if (ptd_cmp (od_eq hr.units) (pd_sub (hu_of hr) (pd_var 0) pd_int) pd_str (nomark _)) (pssd_one (psd_ret (pd_callTy cd_list (by rfl) T.z_list (by rfl) (pda_cons (pd_bin od_add (pd_sub (hu_of hr) (pd_var 0) pd_int) (pd_sub (hu_of hr) (pd_var 0) pd_int)) pda_nil)))) pssd_nil)
    (pssd_one (psd_ret (pd_lc (own := [("part", 1)]) rfl (by exact sc_f_parts_of.nd) (by exact (pid_any (pd_sl (pd_var 0) (pod_some pd_int) pod_none))) (by exact (blkOk_by (own := [("part", 1)]) (N := ["deed", "part"]) (sc := defScope (stm .f_parts_of)) (by decide +kernel))) (fun _ _ _ _ _ => by exact (pgd_name 1 sc_f_parts_of.nd)) (fun _ _ _ _ _ => by exact (ptsd_one (ptd_val (pd_isi (by rfl) T.z_isinstance (by rfl) T.z_tuple (by rfl) (by rfl) (pd_var 1))))) (fun _ _ _ _ _ => by exact (pd_var 1))))))
theorem sc_f_marks_of : FnScope ["rules", "deed", "word", "found", "inner", "part", "mark"] (pas .f_marks_of) (defScope (stm .f_marks_of)) := ⟨rfl, rfl, rfl, by decide +kernel, rfl, by decide +kernel, by decide +kernel⟩
theorem ok_f_marks_of {n : Nat} (T : Tx K mg fa fdt ca ea) (ih : ∀ i, Ok P w K mg base fa fdt ca ea (n + 1) i) (ih2 : ∀ i, Ok P w K mg base fa fdt ca ea n i) : Ok P w K mg base fa fdt ca ea (n + 2) .f_marks_of := by
  show FnOk P w K mg base (L2.CX P w) (n + 1 + 1) (fa .f_marks_of) (fdt .f_marks_of) (pas .f_marks_of) (spD ⟨K, cA ca, xA ea⟩ 2 (runFn 2 7 (b_f_marks_of (csem (n + 1)) (csem n))))
  refine fn_ok (T := ⟨cA ca, xA ea⟩) (np := 2) (N := ["rules", "deed", "word", "found", "inner", "part", "mark"]) (b := b_f_marks_of (csem (n + 1)) (csem n)) (T.fn .f_marks_of) sc_f_marks_of rfl (fun cdv A outer s H E hr => ?_)
  unfold b_f_marks_of
  exact (pssd_cons (psd_asg (pd_sub (hu_of hr) (pd_var 1) pd_int) (pgd_name 2 sc_f_marks_of.nd))
    (pssd_cons (psd_asg (pd_lst pda_nil) (pgd_name 3 sc_f_marks_of.nd))
    (pssd_cons (psd_if (ptd_cmp (od_in hr.u65) (pd_var 2) (pd_tup (pda_cons pd_str (pda_cons pd_str (pda_cons pd_str pda_nil)))) (by rfl)) (pssd_one (psd_asg (pd_lst (pda_cons (pd_tup (pda_cons (pd_var 2) (pda_cons (pd_sub (hu_of hr) (pd_var 1) pd_int) pda_nil))) pda_nil)) (pgd_name 3 sc_f_marks_of.nd))) pssd_nil)
    (pssd_cons (psd_if (ptd_cmp (od_in hr.u65) (pd_var 2) (pd_tup (pda_cons pd_str (pda_cons pd_str pda_nil))) (by rfl)) (pssd_one (psd_asg (pd_lst (pda_cons (pd_tup (pda_cons (pd_var 2) pda_nil)) pda_nil)) (pgd_name 3 sc_f_marks_of.nd))) pssd_nil)
    (pssd_cons (psd_if (ptd_cmp (od_eq hr.units) (pd_var 2) pd_str (nomark _)) (pssd_one (psd_ret (pd_call (ih .f_call_marks) (hr.mono (Nat.le_refl _)) (by rfl) T.mg_f_call_marks T.kp_f_call_marks (T.bd .f_call_marks) (takes_of rfl rfl rfl rfl) (pda_cons (pd_var 0) (pda_cons (pd_var 1) pda_nil))))) pssd_nil)
    (pssd_cons (psd_if (ptd_cmp (od_eq hr.units) (pd_var 2) pd_str (nomark _)) (pssd_cons (psd_setLc 4 (own := [("mark", 6)]) rfl (by exact sc_f_marks_of.nd) (by exact (pid_any (pd_call (ih .f_marks_of) (hr.mono (Nat.le_refl _)) (by rfl) T.mg_f_marks_of T.kp_f_marks_of (T.bd .f_marks_of) (takes_of rfl rfl rfl rfl) (pda_cons (pd_var 0) (pda_cons (pd_sub (hu_of hr) (pd_var 1) pd_int) pda_nil))))) (by exact (blkOk_by (own := [("mark", 6)]) (N := ["rules", "deed", "word", "found", "inner", "part", "mark"]) (sc := defScope (stm .f_marks_of)) (by decide +kernel))) (fun _ _ _ _ _ => by exact (pgd_name 6 sc_f_marks_of.nd)) (fun _ _ _ _ _ => by exact (ptsd_one (ptd_cmp (od_notIn hr.u65) (pd_var 6) (pd_tup (pda_cons (pd_tup (pda_cons pd_str (pda_cons (pd_sub (hu_of hr) (pd_var 1) pd_int) pda_nil))) (pda_cons (pd_tup (pda_cons pd_str (pda_cons (pd_sub (hu_of hr) (pd_var 1) pd_int) pda_nil))) pda_nil))) (by rfl)))) (fun _ _ _ _ _ => by exact (pd_var 6)) (by exact sw_true rfl rfl rfl (by decide +kernel)))
    (pssd_one (psd_ret (pd_call (ih .f_once) (hr.mono (Nat.le_refl _)) (by rfl) T.mg_f_once T.kp_f_once (T.bd .f_once) (takes_of rfl rfl rfl rfl) (pda_cons (pd_bin od_add (pd_call (ih .f_marks_of) (hr.mono (Nat.le_refl _)) (by rfl) T.mg_f_marks_of T.kp_f_marks_of (T.bd .f_marks_of) (takes_of rfl rfl rfl rfl) (pda_cons (pd_var 0) (pda_cons (pd_sub (hu_of hr) (pd_var 1) pd_int) pda_nil))) (pd_var 4)) pda_nil))))) pssd_nil)
    (pssd_cons (psd_for (passes_of rfl) rfl (pid_any (pd_call (ih .f_parts_of) (hr.mono (Nat.le_refl _)) (by rfl) T.mg_f_parts_of T.kp_f_parts_of (T.bd .f_parts_of) (takes_of rfl rfl rfl rfl) (pda_cons (pd_var 1) pda_nil))) (pgd_name 5 sc_f_marks_of.nd) (pssd_one (psd_asg (pd_bin od_add (pd_var 3) (pd_call (ih .f_marks_of) (hr.mono (Nat.le_refl _)) (by rfl) T.mg_f_marks_of T.kp_f_marks_of (T.bd .f_marks_of) (takes_of rfl rfl rfl rfl) (pda_cons (pd_var 0) (pda_cons (pd_var 5) pda_nil)))) (pgd_name 3 sc_f_marks_of.nd))))
    (pssd_one (psd_ret (pd_call (ih .f_once) (hr.mono (Nat.le_refl _)) (by rfl) T.mg_f_once T.kp_f_once (T.bd .f_once) (takes_of rfl rfl rfl rfl) (pda_cons (pd_var 3) pda_nil)))))))))))
theorem sc_f_once : FnScope ["marks"] (pas .f_once) (defScope (stm .f_once)) := ⟨rfl, rfl, rfl, by decide +kernel, rfl, by decide +kernel, by decide +kernel⟩
theorem ok_f_once {n : Nat} (T : Tx K mg fa fdt ca ea) (ih : ∀ i, Ok P w K mg base fa fdt ca ea (n + 1) i) (ih2 : ∀ i, Ok P w K mg base fa fdt ca ea n i) : Ok P w K mg base fa fdt ca ea (n + 2) .f_once := by
  show FnOk P w K mg base (L2.CX P w) (n + 1 + 1) (fa .f_once) (fdt .f_once) (pas .f_once) (spD ⟨K, cA ca, xA ea⟩ 1 (runFn 1 1 (b_f_once (csem (n + 1)) (csem n))))
  refine fn_ok (T := ⟨cA ca, xA ea⟩) (np := 1) (N := ["marks"]) (b := b_f_once (csem (n + 1)) (csem n)) (T.fn .f_once) sc_f_once rfl (fun cdv A outer s H E hr => ?_)
  unfold b_f_once
  exact (pssd_one (psd_ret (pd_ss rfl hr.u65 (by rfl) T.z_sorted (by rfl) T.z_set (pd_var 0))))
theorem sc_f_call_marks : FnScope ["rules", "deed", "names", "handed", "body", "found", "part", "mark"] (pas .f_call_marks) (defScope (stm .f_call_marks)) := ⟨rfl, rfl, rfl, by decide +kernel, rfl, by decide +kernel, by decide +kernel⟩
theorem ok_f_call_marks {n : Nat} (T : Tx K mg fa fdt ca ea) (ih : ∀ i, Ok P w K mg base fa fdt ca ea (n + 1) i) (ih2 : ∀ i, Ok P w K mg base fa fdt ca ea n i) : Ok P w K mg base fa fdt ca ea (n + 2) .f_call_marks := by
  show FnOk P w K mg base (L2.CX P w) (n + 1 + 1) (fa .f_call_marks) (fdt .f_call_marks) (pas .f_call_marks) (spD ⟨K, cA ca, xA ea⟩ 2 (runFn 2 8 (b_f_call_marks (csem (n + 1)) (csem n))))
  refine fn_ok (T := ⟨cA ca, xA ea⟩) (np := 2) (N := ["rules", "deed", "names", "handed", "body", "found", "part", "mark"]) (b := b_f_call_marks (csem (n + 1)) (csem n)) (T.fn .f_call_marks) sc_f_call_marks rfl (fun cdv A outer s H E hr => ?_)
  unfold b_f_call_marks
  exact (pssd_cons (psd_asg (pd_sub (hu_of hr) (pd_var 0) (pd_sub (hu_of hr) (pd_var 1) pd_int)) (pgd_tup (n := 3) rfl (pgd_cons (pgd_name 2 sc_f_call_marks.nd) (pgd_cons (pgd_name 3 sc_f_call_marks.nd) (pgd_cons (pgd_name 4 sc_f_call_marks.nd) pgd_nil)))))
    (pssd_cons (psd_asg (pd_lst pda_nil) (pgd_name 5 sc_f_call_marks.nd))
    (pssd_cons (psd_for (passes_of rfl) rfl (pid_any (pd_sub (hu_of hr) (pd_var 1) pd_int)) (pgd_name 6 sc_f_call_marks.nd) (pssd_one (psd_asg (pd_bin od_add (pd_var 5) (pd_call (ih .f_marks_of) (hr.mono (Nat.le_refl _)) (by rfl) T.mg_f_marks_of T.kp_f_marks_of (T.bd .f_marks_of) (takes_of rfl rfl rfl rfl) (pda_cons (pd_var 0) (pda_cons (pd_var 6) pda_nil)))) (pgd_name 5 sc_f_call_marks.nd))))
    (pssd_cons (psd_for (passes_of rfl) rfl (pid_any (pd_call (ih .f_marks_of) (hr.mono (Nat.le_refl _)) (by rfl) T.mg_f_marks_of T.kp_f_marks_of (T.bd .f_marks_of) (takes_of rfl rfl rfl rfl) (pda_cons (pd_var 0) (pda_cons (pd_var 4) pda_nil)))) (pgd_name 7 sc_f_call_marks.nd) (pssd_one (psd_if (ptd_cmp (od_eq hr.units) (pd_sub (hu_of hr) (pd_var 7) pd_int) pd_str (nomark _)) (pssd_one (psd_asg (pd_bin od_add (pd_var 5) (pd_call (ih .f_marks_of) (hr.mono (Nat.le_refl _)) (by rfl) T.mg_f_marks_of T.kp_f_marks_of (T.bd .f_marks_of) (takes_of rfl rfl rfl rfl) (pda_cons (pd_var 0) (pda_cons (pd_sub (hu_of hr) (pd_sub (hu_of hr) (pd_var 1) pd_int) (pd_idxT (pd_var 3) (pd_sub (hu_of hr) (pd_var 7) pd_int))) pda_nil)))) (pgd_name 5 sc_f_call_marks.nd))) (pssd_one (psd_expr (pd_append (pd_var 5) (pd_var 7)))))))
    (pssd_one (psd_ret (pd_call (ih .f_once) (hr.mono (Nat.le_refl _)) (by rfl) T.mg_f_once T.kp_f_once (T.bd .f_once) (takes_of rfl rfl rfl rfl) (pda_cons (pd_var 5) pda_nil))))))))
theorem sc_f_touches : FnScope ["rules", "deed"] (pas .f_touches) (defScope (stm .f_touches)) := ⟨rfl, rfl, rfl, by decide +kernel, rfl, by decide +kernel, by decide +kernel⟩
theorem ok_f_touches {n : Nat} (T : Tx K mg fa fdt ca ea) (ih : ∀ i, Ok P w K mg base fa fdt ca ea (n + 1) i) (ih2 : ∀ i, Ok P w K mg base fa fdt ca ea n i) : Ok P w K mg base fa fdt ca ea (n + 2) .f_touches := by
  show FnOk P w K mg base (L2.CX P w) (n + 1 + 1) (fa .f_touches) (fdt .f_touches) (pas .f_touches) (spD ⟨K, cA ca, xA ea⟩ 2 (runFn 2 2 (b_f_touches (csem (n + 1)) (csem n))))
  refine fn_ok (T := ⟨cA ca, xA ea⟩) (np := 2) (N := ["rules", "deed"]) (b := b_f_touches (csem (n + 1)) (csem n)) (T.fn .f_touches) sc_f_touches rfl (fun cdv A outer s H E hr => ?_)
  unfold b_f_touches
  exact (pssd_one (psd_ret (pd_call (ih .f_marks_of) (hr.mono (Nat.le_refl _)) (by rfl) T.mg_f_marks_of T.kp_f_marks_of (T.bd .f_marks_of) (takes_of rfl rfl rfl rfl) (pda_cons (pd_var 0) (pda_cons (pd_var 1) pda_nil)))))
theorem sc_f_is_met : FnScope ["mark", "marks"] (pas .f_is_met) (defScope (stm .f_is_met)) := ⟨rfl, rfl, rfl, by decide +kernel, rfl, by decide +kernel, by decide +kernel⟩
theorem ok_f_is_met {n : Nat} (T : Tx K mg fa fdt ca ea) (ih : ∀ i, Ok P w K mg base fa fdt ca ea (n + 1) i) (ih2 : ∀ i, Ok P w K mg base fa fdt ca ea n i) : Ok P w K mg base fa fdt ca ea (n + 2) .f_is_met := by
  show FnOk P w K mg base (L2.CX P w) (n + 1 + 1) (fa .f_is_met) (fdt .f_is_met) (pas .f_is_met) (spD ⟨K, cA ca, xA ea⟩ 2 (runFn 2 2 (b_f_is_met (csem (n + 1)) (csem n))))
  refine fn_ok (T := ⟨cA ca, xA ea⟩) (np := 2) (N := ["mark", "marks"]) (b := b_f_is_met (csem (n + 1)) (csem n)) (T.fn .f_is_met) sc_f_is_met rfl (fun cdv A outer s H E hr => ?_)
  unfold b_f_is_met
  exact (pssd_cons (psd_if (ptd_cmp (od_in hr.u65) (pd_sub (hu_of hr) (pd_var 0) pd_int) (pd_tup (pda_cons pd_str (pda_cons pd_str pda_nil))) (by rfl)) (pssd_one (psd_ret (pd_cmp (od_in hr.u65) (pd_var 0) (pd_var 1) (by rfl)))) pssd_nil)
    (pssd_cons (psd_if (ptd_cmp (od_eq hr.units) (pd_sub (hu_of hr) (pd_var 0) pd_int) pd_str (nomark _)) (pssd_one (psd_ret (pd_or (pd_cmp (od_in hr.u65) (pd_tup (pda_cons pd_str (pda_cons (pd_sub (hu_of hr) (pd_var 0) pd_int) pda_nil))) (pd_var 1) (by rfl)) (pd_one (pd_cmp (od_in hr.u65) (pd_tup (pda_cons pd_str (pda_cons (pd_sub (hu_of hr) (pd_var 0) pd_int) pda_nil))) (pd_var 1) (by rfl)))))) pssd_nil)
    (pssd_one (psd_ret (pd_cmp (od_in hr.u65) (pd_tup (pda_cons pd_str (pda_cons (pd_sub (hu_of hr) (pd_var 0) pd_int) pda_nil))) (pd_var 1) (by rfl))))))
theorem sc_f_clash : FnScope ["rules", "one", "other", "mine", "yours", "mark"] (pas .f_clash) (defScope (stm .f_clash)) := ⟨rfl, rfl, rfl, by decide +kernel, rfl, by decide +kernel, by decide +kernel⟩
theorem ok_f_clash {n : Nat} (T : Tx K mg fa fdt ca ea) (ih : ∀ i, Ok P w K mg base fa fdt ca ea (n + 1) i) (ih2 : ∀ i, Ok P w K mg base fa fdt ca ea n i) : Ok P w K mg base fa fdt ca ea (n + 2) .f_clash := by
  show FnOk P w K mg base (L2.CX P w) (n + 1 + 1) (fa .f_clash) (fdt .f_clash) (pas .f_clash) (spD ⟨K, cA ca, xA ea⟩ 3 (runFn 3 6 (b_f_clash (csem (n + 1)) (csem n))))
  refine fn_ok (T := ⟨cA ca, xA ea⟩) (np := 3) (N := ["rules", "one", "other", "mine", "yours", "mark"]) (b := b_f_clash (csem (n + 1)) (csem n)) (T.fn .f_clash) sc_f_clash rfl (fun cdv A outer s H E hr => ?_)
  unfold b_f_clash
  exact (pssd_cons (psd_asg (pd_call (ih .f_touches) (hr.mono (Nat.le_refl _)) (by rfl) T.mg_f_touches T.kp_f_touches (T.bd .f_touches) (takes_of rfl rfl rfl rfl) (pda_cons (pd_var 0) (pda_cons (pd_var 1) pda_nil))) (pgd_name 3 sc_f_clash.nd))
    (pssd_cons (psd_asg (pd_call (ih .f_touches) (hr.mono (Nat.le_refl _)) (by rfl) T.mg_f_touches T.kp_f_touches (T.bd .f_touches) (takes_of rfl rfl rfl rfl) (pda_cons (pd_var 0) (pda_cons (pd_var 2) pda_nil))) (pgd_name 4 sc_f_clash.nd))
    (pssd_one (psd_ret (pd_ss rfl hr.u65 (by rfl) T.z_sorted (by rfl) T.z_set (pd_lc (own := [("mark", 5)]) rfl (by exact sc_f_clash.nd) (by exact (pid_any (pd_var 3))) (by exact (blkOk_by (own := [("mark", 5)]) (N := ["rules", "one", "other", "mine", "yours", "mark"]) (sc := defScope (stm .f_clash)) (by decide +kernel))) (fun _ _ _ _ _ => by exact (pgd_name 5 sc_f_clash.nd)) (fun _ _ _ _ _ => by exact (ptsd_one (ptd_val (pd_call (ih .f_is_met) (hr.mono (Nat.le_refl _)) (by rfl) T.mg_f_is_met T.kp_f_is_met (T.bd .f_is_met) takes0 (pda_cons (pd_var 5) (pda_cons (pd_var 4) pda_nil)))))) (fun _ _ _ _ _ => by exact (pd_sub (hu_of hr) (pd_var 5) (pd_neg pd_int)))))))))
theorem sc_f_may_go : FnScope ["rules", "one", "other"] (pas .f_may_go) (defScope (stm .f_may_go)) := ⟨rfl, rfl, rfl, by decide +kernel, rfl, by decide +kernel, by decide +kernel⟩
theorem ok_f_may_go {n : Nat} (T : Tx K mg fa fdt ca ea) (ih : ∀ i, Ok P w K mg base fa fdt ca ea (n + 1) i) (ih2 : ∀ i, Ok P w K mg base fa fdt ca ea n i) : Ok P w K mg base fa fdt ca ea (n + 2) .f_may_go := by
  show FnOk P w K mg base (L2.CX P w) (n + 1 + 1) (fa .f_may_go) (fdt .f_may_go) (pas .f_may_go) (spD ⟨K, cA ca, xA ea⟩ 3 (runFn 3 3 (b_f_may_go (csem (n + 1)) (csem n))))
  refine fn_ok (T := ⟨cA ca, xA ea⟩) (np := 3) (N := ["rules", "one", "other"]) (b := b_f_may_go (csem (n + 1)) (csem n)) (T.fn .f_may_go) sc_f_may_go rfl (fun cdv A outer s H E hr => ?_)
  unfold b_f_may_go
  exact (pssd_one (psd_ret (pd_cmp (od_eq hr.units) (pd_call (ih .f_clash) (hr.mono (Nat.le_refl _)) (by rfl) T.mg_f_clash T.kp_f_clash (T.bd .f_clash) (takes_of rfl rfl rfl rfl) (pda_cons (pd_var 0) (pda_cons (pd_var 1) (pda_cons (pd_var 2) pda_nil)))) (pd_lst pda_nil) (nomark _))))
theorem sc_f_all_may_go : FnScope ["rules", "deeds", "at", "one", "other"] (pas .f_all_may_go) (defScope (stm .f_all_may_go)) := ⟨rfl, rfl, rfl, by decide +kernel, rfl, by decide +kernel, by decide +kernel⟩
theorem ok_f_all_may_go {n : Nat} (T : Tx K mg fa fdt ca ea) (ih : ∀ i, Ok P w K mg base fa fdt ca ea (n + 1) i) (ih2 : ∀ i, Ok P w K mg base fa fdt ca ea n i) : Ok P w K mg base fa fdt ca ea (n + 2) .f_all_may_go := by
  show FnOk P w K mg base (L2.CX P w) (n + 1 + 1) (fa .f_all_may_go) (fdt .f_all_may_go) (pas .f_all_may_go) (spD ⟨K, cA ca, xA ea⟩ 2 (runFn 2 5 (b_f_all_may_go (csem (n + 1)) (csem n))))
  refine fn_ok (T := ⟨cA ca, xA ea⟩) (np := 2) (N := ["rules", "deeds", "at", "one", "other"]) (b := b_f_all_may_go (csem (n + 1)) (csem n)) (T.fn .f_all_may_go) sc_f_all_may_go rfl (fun cdv A outer s H E hr => ?_)
  unfold b_f_all_may_go
  exact (pssd_cons (psd_for (passes_of rfl) rfl (pid_enumA (by rfl) T.z_enumerate (pd_var 1)) (pgd_tup (n := 2) rfl (pgd_cons (pgd_name 2 sc_f_all_may_go.nd) (pgd_cons (pgd_name 3 sc_f_all_may_go.nd) pgd_nil))) (pssd_one (psd_if (ptd_not (ptd_val (pd_callB (cd_all rfl) (by rfl) T.z_all (by rfl) (pda_cons (pd_lc (own := [("other", 4)]) rfl (by exact sc_f_all_may_go.nd) (by exact (pid_any (pd_sl (pd_var 1) (pod_some (pd_bin od_add (pd_var 2) pd_int)) pod_none))) (by exact (blkOk_by (own := [("other", 4)]) (N := ["rules", "deeds", "at", "one", "other"]) (sc := defScope (stm .f_all_may_go)) (by decide +kernel))) (fun _ _ _ _ _ => by exact (pgd_name 4 sc_f_all_may_go.nd)) (fun _ _ _ _ _ => by exact ptsd_nil) (fun _ _ _ _ _ => by exact (pd_call (ih .f_may_go) (hr.mono (Nat.le_refl _)) (by rfl) T.mg_f_may_go T.kp_f_may_go (T.bd .f_may_go) takes0 (pda_cons (pd_var 0) (pda_cons (pd_var 3) (pda_cons (pd_var 4) pda_nil)))))) pda_nil)))) (pssd_one (psd_ret pd_bl)) pssd_nil)))
    (pssd_one (psd_ret pd_bl)))
theorem sc_f_clashing : FnScope ["rules", "deeds", "found", "at", "one", "to"] (pas .f_clashing) (defScope (stm .f_clashing)) := ⟨rfl, rfl, rfl, by decide +kernel, rfl, by decide +kernel, by decide +kernel⟩
theorem ok_f_clashing {n : Nat} (T : Tx K mg fa fdt ca ea) (ih : ∀ i, Ok P w K mg base fa fdt ca ea (n + 1) i) (ih2 : ∀ i, Ok P w K mg base fa fdt ca ea n i) : Ok P w K mg base fa fdt ca ea (n + 2) .f_clashing := by
  show FnOk P w K mg base (L2.CX P w) (n + 1 + 1) (fa .f_clashing) (fdt .f_clashing) (pas .f_clashing) (spD ⟨K, cA ca, xA ea⟩ 2 (runFn 2 6 (b_f_clashing (csem (n + 1)) (csem n))))
  refine fn_ok (T := ⟨cA ca, xA ea⟩) (np := 2) (N := ["rules", "deeds", "found", "at", "one", "to"]) (b := b_f_clashing (csem (n + 1)) (csem n)) (T.fn .f_clashing) sc_f_clashing rfl (fun cdv A outer s H E hr => ?_)
  unfold b_f_clashing
  exact (pssd_cons (psd_asg (pd_lst pda_nil) (pgd_name 2 sc_f_clashing.nd))
    (pssd_cons (psd_for (passes_of rfl) rfl (pid_enumA (by rfl) T.z_enumerate (pd_var 1)) (pgd_tup (n := 2) rfl (pgd_cons (pgd_name 3 sc_f_clashing.nd) (pgd_cons (pgd_name 4 sc_f_clashing.nd) pgd_nil))) (pssd_one (psd_expr (pd_extend (pd_var 2) (pd_lc (own := [("to", 5)]) rfl (by exact sc_f_clashing.nd) (by exact (pid_range2 (by rfl) T.z_range (pd_bin od_add (pd_var 3) pd_int) (pd_callB cd_len (by rfl) T.z_len (by rfl) (pda_cons (pd_var 1) pda_nil)))) (by exact (blkOk_by (own := [("to", 5)]) (N := ["rules", "deeds", "found", "at", "one", "to"]) (sc := defScope (stm .f_clashing)) (by decide +kernel))) (fun _ _ _ _ _ => by exact (pgd_name 5 sc_f_clashing.nd)) (fun _ _ _ _ _ => by exact (ptsd_one (ptd_not (ptd_val (pd_call (ih .f_may_go) (hr.mono (Nat.le_refl _)) (by rfl) T.mg_f_may_go T.kp_f_may_go (T.bd .f_may_go) takes0 (pda_cons (pd_var 0) (pda_cons (pd_var 4) (pda_cons (pd_sub (hu_of hr) (pd_var 1) (pd_var 5)) pda_nil)))))))) (fun _ _ _ _ _ => by exact (pd_tup (pda_cons (pd_var 3) (pda_cons (pd_var 5) pda_nil)))))))))
    (pssd_one (psd_ret (pd_var 2)))))
theorem sc_f_goes_twice : FnScope ["rules", "deed", "marks", "mark"] (pas .f_goes_twice) (defScope (stm .f_goes_twice)) := ⟨rfl, rfl, rfl, by decide +kernel, rfl, by decide +kernel, by decide +kernel⟩
theorem ok_f_goes_twice {n : Nat} (T : Tx K mg fa fdt ca ea) (ih : ∀ i, Ok P w K mg base fa fdt ca ea (n + 1) i) (ih2 : ∀ i, Ok P w K mg base fa fdt ca ea n i) : Ok P w K mg base fa fdt ca ea (n + 2) .f_goes_twice := by
  show FnOk P w K mg base (L2.CX P w) (n + 1 + 1) (fa .f_goes_twice) (fdt .f_goes_twice) (pas .f_goes_twice) (spD ⟨K, cA ca, xA ea⟩ 2 (runFn 2 4 (b_f_goes_twice (csem (n + 1)) (csem n))))
  refine fn_ok (T := ⟨cA ca, xA ea⟩) (np := 2) (N := ["rules", "deed", "marks", "mark"]) (b := b_f_goes_twice (csem (n + 1)) (csem n)) (T.fn .f_goes_twice) sc_f_goes_twice rfl (fun cdv A outer s H E hr => ?_)
  unfold b_f_goes_twice
  exact (pssd_cons (psd_asg (pd_call (ih .f_touches) (hr.mono (Nat.le_refl _)) (by rfl) T.mg_f_touches T.kp_f_touches (T.bd .f_touches) (takes_of rfl rfl rfl rfl) (pda_cons (pd_var 0) (pda_cons (pd_var 1) pda_nil))) (pgd_name 2 sc_f_goes_twice.nd))
    (pssd_cons (psd_if (PW.pt (pwd_or (ptd_cmp (od_in hr.u65) (pd_tup (pda_cons pd_str pda_nil)) (pd_var 2) (by rfl)) (pwd_or1 (ptd_cmp (od_in hr.u65) (pd_tup (pda_cons pd_str pda_nil)) (pd_var 2) (by rfl))))) (pssd_one (psd_ret pd_bl)) pssd_nil)
    (pssd_one (psd_ret (pd_not (pd_callB (cd_any rfl) (by rfl) T.z_any (by rfl) (pda_cons (pd_lc (own := [("mark", 3)]) rfl (by exact sc_f_goes_twice.nd) (by exact (pid_any (pd_var 2))) (by exact (blkOk_by (own := [("mark", 3)]) (N := ["rules", "deed", "marks", "mark"]) (sc := defScope (stm .f_goes_twice)) (by decide +kernel))) (fun _ _ _ _ _ => by exact (pgd_name 3 sc_f_goes_twice.nd)) (fun _ _ _ _ _ => by exact (ptsd_one (ptd_cmp (od_eq hr.units) (pd_sub (hu_of hr) (pd_var 3) pd_int) pd_str (nomark _)))) (fun _ _ _ _ _ => by exact (pd_cmp (od_in hr.u65) (pd_tup (pda_cons pd_str (pda_cons (pd_sub (hu_of hr) (pd_var 3) pd_int) pda_nil))) (pd_var 2) (by rfl)))) pda_nil)))))))
theorem sc_f__law_cell : FnScope ["_law_script", "_law_k"] (pas .f__law_cell) (defScope (stm .f__law_cell)) := ⟨rfl, rfl, rfl, by decide +kernel, rfl, by decide +kernel, by decide +kernel⟩
theorem ok_f__law_cell {n : Nat} (T : Tx K mg fa fdt ca ea) (ih : ∀ i, Ok P w K mg base fa fdt ca ea (n + 1) i) (ih2 : ∀ i, Ok P w K mg base fa fdt ca ea n i) : Ok P w K mg base fa fdt ca ea (n + 2) .f__law_cell := by
  show FnOk P w K mg base (L2.CX P w) (n + 1 + 1) (fa .f__law_cell) (fdt .f__law_cell) (pas .f__law_cell) (spD ⟨K, cA ca, xA ea⟩ 2 (runFn 2 2 (b_f__law_cell (csem (n + 1)) (csem n))))
  refine fn_ok (T := ⟨cA ca, xA ea⟩) (np := 2) (N := ["_law_script", "_law_k"]) (b := b_f__law_cell (csem (n + 1)) (csem n)) (T.fn .f__law_cell) sc_f__law_cell rfl (fun cdv A outer s H E hr => ?_)
  unfold b_f__law_cell
  exact (pssd_cons (psd_if (ptd_cmp (od_eq hr.units) (pd_var 0) (pd_lst pda_nil) (nomark _)) (pssd_one (psd_ret (pd_bin od_mul pd_int (pd_var 1)))) pssd_nil)
    (pssd_one (psd_ret (pd_bin od_add (pd_sub (hu_of hr) (pd_var 0) (pd_bin od_mod (pd_var 1) (pd_callB cd_len (by rfl) T.z_len (by rfl) (pda_cons (pd_var 0) pda_nil)))) (pd_bin od_mul pd_int (pd_bin od_div (pd_var 1) (pd_callB cd_len (by rfl) T.z_len (by rfl) (pda_cons (pd_var 0) pda_nil))))))))
theorem sc_f__law_drawn : FnScope ["_law_script", "_law_k", "_law_many", "_law_cell_here"] (pas .f__law_drawn) (defScope (stm .f__law_drawn)) := ⟨rfl, rfl, rfl, by decide +kernel, rfl, by decide +kernel, by decide +kernel⟩
theorem ok_f__law_drawn {n : Nat} (T : Tx K mg fa fdt ca ea) (ih : ∀ i, Ok P w K mg base fa fdt ca ea (n + 1) i) (ih2 : ∀ i, Ok P w K mg base fa fdt ca ea n i) : Ok P w K mg base fa fdt ca ea (n + 2) .f__law_drawn := by
  show FnOk P w K mg base (L2.CX P w) (n + 1 + 1) (fa .f__law_drawn) (fdt .f__law_drawn) (pas .f__law_drawn) (spD ⟨K, cA ca, xA ea⟩ 3 (runFn 3 4 (b_f__law_drawn (csem (n + 1)) (csem n))))
  refine fn_ok (T := ⟨cA ca, xA ea⟩) (np := 3) (N := ["_law_script", "_law_k", "_law_many", "_law_cell_here"]) (b := b_f__law_drawn (csem (n + 1)) (csem n)) (T.fn .f__law_drawn) sc_f__law_drawn rfl (fun cdv A outer s H E hr => ?_)
  unfold b_f__law_drawn
  exact (pssd_cons (psd_asg (pd_bin od_mod (pd_bin od_add (pd_bin od_mul (pd_bin od_mod (pd_call (ih .f__law_cell) (hr.mono (Nat.le_refl _)) (by rfl) T.mg_f__law_cell T.kp_f__law_cell (T.bd .f__law_cell) (takes_of rfl rfl rfl rfl) (pda_cons (pd_var 0) (pda_cons (pd_var 1) pda_nil))) pd_int) pd_int) (pd_bin od_mul pd_int (pd_bin od_add (pd_var 1) pd_int))) pd_int) (pgd_name 3 sc_f__law_drawn.nd))
    (pssd_cons (psd_asg (pd_bin od_mod (pd_bin od_add (pd_bin od_mul (pd_var 3) (pd_var 3)) (pd_bin od_div (pd_var 3) pd_int)) pd_int) (pgd_name 3 sc_f__law_drawn.nd))
    (pssd_one (psd_ret (pd_bin od_mod (pd_bin od_div (pd_bin od_mod (pd_bin od_add (pd_bin od_mul (pd_var 3) (pd_var 3)) (pd_bin od_div (pd_var 3) pd_int)) pd_int) pd_int) (pd_var 2))))))
theorem sc_f__law_leaf : FnScope ["_law_script", "_law_at", "_law_known", "_law_names", "_law_owns", "_law_handed", "_law_way", "_law_shelves"] (pas .f__law_leaf) (defScope (stm .f__law_leaf)) := ⟨rfl, rfl, rfl, by decide +kernel, rfl, by decide +kernel, by decide +kernel⟩
theorem ok_f__law_leaf {n : Nat} (T : Tx K mg fa fdt ca ea) (ih : ∀ i, Ok P w K mg base fa fdt ca ea (n + 1) i) (ih2 : ∀ i, Ok P w K mg base fa fdt ca ea n i) : Ok P w K mg base fa fdt ca ea (n + 2) .f__law_leaf := by
  show FnOk P w K mg base (L2.CX P w) (n + 1 + 1) (fa .f__law_leaf) (fdt .f__law_leaf) (pas .f__law_leaf) (spD ⟨K, cA ca, xA ea⟩ 3 (runFn 3 8 (b_f__law_leaf (csem (n + 1)) (csem n))))
  refine fn_ok (T := ⟨cA ca, xA ea⟩) (np := 3) (N := ["_law_script", "_law_at", "_law_known", "_law_names", "_law_owns", "_law_handed", "_law_way", "_law_shelves"]) (b := b_f__law_leaf (csem (n + 1)) (csem n)) (T.fn .f__law_leaf) sc_f__law_leaf rfl (fun cdv A outer s H E hr => ?_)
  unfold b_f__law_leaf
  exact (pssd_cons (psd_asg (pd_var 2) (pgd_tup (n := 3) rfl (pgd_cons (pgd_name 3 sc_f__law_leaf.nd) (pgd_cons (pgd_name 4 sc_f__law_leaf.nd) (pgd_cons (pgd_name 5 sc_f__law_leaf.nd) pgd_nil)))))
    (pssd_cons (psd_asg (pd_call (ih .f__law_drawn) (hr.mono (Nat.le_refl _)) (by rfl) T.mg_f__law_drawn T.kp_f__law_drawn (T.bd .f__law_drawn) (takes_of rfl rfl rfl rfl) (pda_cons (pd_var 0) (pda_cons (pd_var 1) (pda_cons pd_int pda_nil)))) (pgd_name 6 sc_f__law_leaf.nd))
    (pssd_cons (psd_if (ptd_cmp od_lt (pd_var 6) pd_int (nomark _)) (pssd_one (psd_ret (pd_tup (pda_cons pd_str (pda_cons (pd_sub (hu_of hr) (pd_lst (pda_cons pd_int (pda_cons pd_int (pda_cons pd_int (pda_cons pd_int (pda_cons pd_int (pda_cons pd_int pda_nil))))))) (pd_call (ih .f__law_drawn) (hr.mono (Nat.le_refl _)) (by rfl) T.mg_f__law_drawn T.kp_f__law_drawn (T.bd .f__law_drawn) (takes_of rfl rfl rfl rfl) (pda_cons (pd_var 0) (pda_cons (pd_bin od_add (pd_var 1) pd_int) (pda_cons pd_int pda_nil))))) pda_nil))))) pssd_nil)
    (pssd_cons (psd_if (PW.pt (pwd_and (ptd_cmp (od_eq hr.units) (pd_var 6) pd_int (nomark _)) (pwd_and1 (ptd_cmp (od_ne hr.units) (pd_var 3) (pd_tup pda_nil) (nomark _))))) (pssd_one (psd_ret (pd_tup (pda_cons pd_str (pda_cons (pd_sub (hu_of hr) (pd_var 3) (pd_call (ih .f__law_drawn) (hr.mono (Nat.le_refl _)) (by rfl) T.mg_f__law_drawn T.kp_f__law_drawn (T.bd .f__law_drawn) (takes_of rfl rfl rfl rfl) (pda_cons (pd_var 0) (pda_cons (pd_bin od_add (pd_var 1) pd_int) (pda_cons (pd_callB cd_len (by rfl) T.z_len (by rfl) (pda_cons (pd_var 3) pda_nil)) pda_nil))))) pda_nil))))) pssd_nil)
    (pssd_cons (psd_if (PW.pt (pwd_and (ptd_cmp (od_eq hr.units) (pd_var 6) pd_int (nomark _)) (pwd_and1 (ptd_cmp (od_ne hr.units) (pd_var 5) (pd_tup pda_nil) (nomark _))))) (pssd_one (psd_ret (pd_tup (pda_cons pd_str (pda_cons (pd_sub (hu_of hr) (pd_var 5) (pd_call (ih .f__law_drawn) (hr.mono (Nat.le_refl _)) (by rfl) T.mg_f__law_drawn T.kp_f__law_drawn (T.bd .f__law_drawn) (takes_of rfl rfl rfl rfl) (pda_cons (pd_var 0) (pda_cons (pd_bin od_add (pd_var 1) pd_int) (pda_cons (pd_callB cd_len (by rfl) T.z_len (by rfl) (pda_cons (pd_var 5) pda_nil)) pda_nil))))) pda_nil))))) pssd_nil)
    (pssd_cons (psd_if (ptd_cmp (od_eq hr.units) (pd_var 6) pd_int (nomark _)) (pssd_one (psd_ret (pd_tup (pda_cons pd_str pda_nil)))) pssd_nil)
    (pssd_cons (psd_asg (pd_bin od_add (pd_tup (pda_cons pd_str (pda_cons pd_str (pda_cons pd_str (pda_cons pd_str pda_nil))))) (pd_bin od_mul (pd_var 4) pd_int)) (pgd_name 7 sc_f__law_leaf.nd))
    (pssd_one (psd_ret (pd_tup (pda_cons pd_str (pda_cons (pd_sub (hu_of hr) (pd_var 7) (pd_call (ih .f__law_drawn) (hr.mono (Nat.le_refl _)) (by rfl) T.mg_f__law_drawn T.kp_f__law_drawn (T.bd .f__law_drawn) (takes_of rfl rfl rfl rfl) (pda_cons (pd_var 0) (pda_cons (pd_bin od_add (pd_var 1) pd_int) (pda_cons (pd_callB cd_len (by rfl) T.z_len (by rfl) (pda_cons (pd_var 7) pda_nil)) pda_nil))))) pda_nil))))))))))))
theorem sc_f__law_deed : FnScope ["_law_script", "_law_at", "_law_deep", "_law_known", "_law_rules_here", "_law_way", "_law_one", "_law_shelves", "_law_word", "_law_inner", "_law_other"] (pas .f__law_deed) (defScope (stm .f__law_deed)) := ⟨rfl, rfl, rfl, by decide +kernel, rfl, by decide +kernel, by decide +kernel⟩
theorem ok_f__law_deed {n : Nat} (T : Tx K mg fa fdt ca ea) (ih : ∀ i, Ok P w K mg base fa fdt ca ea (n + 1) i) (ih2 : ∀ i, Ok P w K mg base fa fdt ca ea n i) : Ok P w K mg base fa fdt ca ea (n + 2) .f__law_deed := by
  show FnOk P w K mg base (L2.CX P w) (n + 1 + 1) (fa .f__law_deed) (fdt .f__law_deed) (pas .f__law_deed) (spD ⟨K, cA ca, xA ea⟩ 5 (runFn 5 11 (b_f__law_deed (csem (n + 1)) (csem n))))
  refine fn_ok (T := ⟨cA ca, xA ea⟩) (np := 5) (N := ["_law_script", "_law_at", "_law_deep", "_law_known", "_law_rules_here", "_law_way", "_law_one", "_law_shelves", "_law_word", "_law_inner", "_law_other"]) (b := b_f__law_deed (csem (n + 1)) (csem n)) (T.fn .f__law_deed) sc_f__law_deed rfl (fun cdv A outer s H E hr => ?_)
  unfold b_f__law_deed
  exact (pssd_cons (psd_asg (pd_call (ih .f__law_drawn) (hr.mono (Nat.le_refl _)) (by rfl) T.mg_f__law_drawn T.kp_f__law_drawn (T.bd .f__law_drawn) (takes_of rfl rfl rfl rfl) (pda_cons (pd_var 0) (pda_cons (pd_var 1) (pda_cons pd_int pda_nil)))) (pgd_name 5 sc_f__law_deed.nd))
    (pssd_cons (psd_if (PW.pt (pwd_or (ptd_cmp (od_eq hr.units) (pd_var 2) pd_int (nomark _)) (pwd_or1 (ptd_cmp od_lt (pd_var 5) pd_int (nomark _))))) (pssd_one (psd_ret (pd_call (ih .f__law_leaf) (hr.mono (Nat.le_refl _)) (by rfl) T.mg_f__law_leaf T.kp_f__law_leaf (T.bd .f__law_leaf) (takes_of rfl rfl rfl rfl) (pda_cons (pd_var 0) (pda_cons (pd_bin od_add (pd_var 1) pd_int) (pda_cons (pd_var 3) pda_nil)))))) pssd_nil)
    (pssd_cons (psd_if (PW.pt (pwd_and (ptd_cmp od_lt (pd_var 5) pd_int (nomark _)) (pwd_and1 (ptd_cmp (od_ne hr.units) (pd_var 4) (pd_tup pda_nil) (nomark _))))) (pssd_one (psd_ret (pd_call (ih .f__law_call) (hr.mono (Nat.le_refl _)) (by rfl) T.mg_f__law_call T.kp_f__law_call (T.bd .f__law_call) (takes_of rfl rfl rfl rfl) (pda_cons (pd_var 0) (pda_cons (pd_var 1) (pda_cons (pd_var 2) (pda_cons (pd_var 3) (pda_cons (pd_var 4) pda_nil)))))))) pssd_nil)
    (pssd_cons (psd_asg (pd_call (ih .f__law_deed) (hr.mono (Nat.le_refl _)) (by rfl) T.mg_f__law_deed T.kp_f__law_deed (T.bd .f__law_deed) (takes_of rfl rfl rfl rfl) (pda_cons (pd_var 0) (pda_cons (pd_bin od_add (pd_bin od_mul (pd_var 1) pd_int) pd_int) (pda_cons (pd_bin od_sub (pd_var 2) pd_int) (pda_cons (pd_var 3) (pda_cons (pd_var 4) pda_nil)))))) (pgd_name 6 sc_f__law_deed.nd))
    (pssd_cons (psd_if (ptd_cmp od_lt (pd_var 5) pd_int (nomark _)) (pssd_cons (psd_asg (pd_bin od_add (pd_tup (pda_cons pd_str (pda_cons pd_str (pda_cons pd_str (pda_cons pd_str pda_nil))))) (pd_bin od_mul (pd_sub (hu_of hr) (pd_var 3) pd_int) pd_int)) (pgd_name 7 sc_f__law_deed.nd))
    (pssd_one (psd_ret (pd_tup (pda_cons pd_str (pda_cons (pd_sub (hu_of hr) (pd_var 7) (pd_call (ih .f__law_drawn) (hr.mono (Nat.le_refl _)) (by rfl) T.mg_f__law_drawn T.kp_f__law_drawn (T.bd .f__law_drawn) (takes_of rfl rfl rfl rfl) (pda_cons (pd_var 0) (pda_cons (pd_bin od_add (pd_var 1) pd_int) (pda_cons (pd_callB cd_len (by rfl) T.z_len (by rfl) (pda_cons (pd_var 7) pda_nil)) pda_nil))))) (pda_cons (pd_var 6) pda_nil))))))) pssd_nil)
    (pssd_cons (psd_if (ptd_cmp (od_eq hr.units) (pd_var 5) pd_int (nomark _)) (pssd_one (psd_ret (pd_tup (pda_cons pd_str (pda_cons (pd_var 6) pda_nil))))) pssd_nil)
    (pssd_cons (psd_if (ptd_cmp (od_eq hr.units) (pd_var 5) pd_int (nomark _)) (pssd_cons (psd_asg (pd_sub (hu_of hr) (pd_lst (pda_cons pd_str (pda_cons pd_str (pda_cons pd_str pda_nil)))) (pd_call (ih .f__law_drawn) (hr.mono (Nat.le_refl _)) (by rfl) T.mg_f__law_drawn T.kp_f__law_drawn (T.bd .f__law_drawn) (takes_of rfl rfl rfl rfl) (pda_cons (pd_var 0) (pda_cons (pd_bin od_add (pd_var 1) pd_int) (pda_cons pd_int pda_nil))))) (pgd_name 8 sc_f__law_deed.nd))
    (pssd_one (psd_ret (pd_tup (pda_cons pd_str (pda_cons (pd_var 8) (pda_cons (pd_var 6) (pda_cons (pd_call (ih .f__law_deed) (hr.mono (Nat.le_refl _)) (by rfl) T.mg_f__law_deed T.kp_f__law_deed (T.bd .f__law_deed) (takes_of rfl rfl rfl rfl) (pda_cons (pd_var 0) (pda_cons (pd_bin od_add (pd_bin od_mul (pd_var 1) pd_int) pd_int) (pda_cons (pd_bin od_sub (pd_var 2) pd_int) (pda_cons (pd_bin od_add (pd_tup (pda_cons (pd_bin od_add (pd_sub (hu_of hr) (pd_var 3) pd_int) (pd_tup (pda_cons (pd_var 8) pda_nil))) pda_nil)) (pd_sl (pd_var 3) (pod_some pd_int) pod_none)) (pda_cons (pd_var 4) pda_nil)))))) pda_nil)))))))) pssd_nil)
    (pssd_cons (psd_if (ptd_cmp (od_eq hr.units) (pd_var 5) pd_int (nomark _)) (pssd_cons (psd_asg (pd_sub (hu_of hr) (pd_lst (pda_cons pd_str (pda_cons pd_str pda_nil))) (pd_call (ih .f__law_drawn) (hr.mono (Nat.le_refl _)) (by rfl) T.mg_f__law_drawn T.kp_f__law_drawn (T.bd .f__law_drawn) (takes_of rfl rfl rfl rfl) (pda_cons (pd_var 0) (pda_cons (pd_bin od_add (pd_var 1) pd_int) (pda_cons pd_int pda_nil))))) (pgd_name 8 sc_f__law_deed.nd))
    (pssd_cons (psd_asg (pd_tup (pda_cons (pd_sub (hu_of hr) (pd_var 3) pd_int) (pda_cons (pd_bin od_add (pd_sub (hu_of hr) (pd_var 3) pd_int) (pd_tup (pda_cons (pd_var 8) pda_nil))) (pda_cons (pd_sub (hu_of hr) (pd_var 3) pd_int) pda_nil)))) (pgd_name 9 sc_f__law_deed.nd))
    (pssd_one (psd_ret (pd_tup (pda_cons pd_str (pda_cons (pd_var 8) (pda_cons (pd_var 6) (pda_cons (pd_call (ih .f__law_deed) (hr.mono (Nat.le_refl _)) (by rfl) T.mg_f__law_deed T.kp_f__law_deed (T.bd .f__law_deed) (takes_of rfl rfl rfl rfl) (pda_cons (pd_var 0) (pda_cons (pd_bin od_add (pd_bin od_mul (pd_var 1) pd_int) pd_int) (pda_cons (pd_bin od_sub (pd_var 2) pd_int) (pda_cons (pd_var 9) (pda_cons (pd_var 4) pda_nil)))))) pda_nil))))))))) pssd_nil)
    (pssd_cons (psd_asg (pd_call (ih .f__law_deed) (hr.mono (Nat.le_refl _)) (by rfl) T.mg_f__law_deed T.kp_f__law_deed (T.bd .f__law_deed) (takes_of rfl rfl rfl rfl) (pda_cons (pd_var 0) (pda_cons (pd_bin od_add (pd_bin od_mul (pd_var 1) pd_int) pd_int) (pda_cons (pd_bin od_sub (pd_var 2) pd_int) (pda_cons (pd_var 3) (pda_cons (pd_var 4) pda_nil)))))) (pgd_name 10 sc_f__law_deed.nd))
    (pssd_cons (psd_if (ptd_cmp (od_eq hr.units) (pd_var 5) pd_int (nomark _)) (pssd_one (psd_ret (pd_tup (pda_cons pd_str (pda_cons (pd_var 6) (pda_cons (pd_var 10) (pda_cons (pd_call (ih .f__law_deed) (hr.mono (Nat.le_refl _)) (by rfl) T.mg_f__law_deed T.kp_f__law_deed (T.bd .f__law_deed) (takes_of rfl rfl rfl rfl) (pda_cons (pd_var 0) (pda_cons (pd_bin od_add (pd_bin od_mul (pd_var 1) pd_int) pd_int) (pda_cons (pd_bin od_sub (pd_var 2) pd_int) (pda_cons (pd_var 3) (pda_cons (pd_var 4) pda_nil)))))) pda_nil))))))) pssd_nil)
    (pssd_one (psd_ret (pd_bin od_add (pd_sub (hu_of hr) (pd_lst (pda_cons (pd_tup (pda_cons pd_str pda_nil)) (pda_cons (pd_tup (pda_cons pd_str pda_nil)) (pda_cons (pd_tup (pda_cons pd_str pda_nil)) (pda_cons (pd_tup (pda_cons pd_str pda_nil)) (pda_cons (pd_tup (pda_cons pd_str pda_nil)) pda_nil)))))) (pd_bin od_sub (pd_var 5) pd_int)) (pd_tup (pda_cons (pd_var 6) (pda_cons (pd_var 10) pda_nil))))))))))))))))
theorem sc_f__law_call : FnScope ["_law_script", "_law_at", "_law_deep", "_law_known", "_law_rules_here", "_law_number", "_law_size", "_law_parts", "_law_k"] (pas .f__law_call) (defScope (stm .f__law_call)) := ⟨rfl, rfl, rfl, by decide +kernel, rfl, by decide +kernel, by decide +kernel⟩
theorem ok_f__law_call {n : Nat} (T : Tx K mg fa fdt ca ea) (ih : ∀ i, Ok P w K mg base fa fdt ca ea (n + 1) i) (ih2 : ∀ i, Ok P w K mg base fa fdt ca ea n i) : Ok P w K mg base fa fdt ca ea (n + 2) .f__law_call := by
  show FnOk P w K mg base (L2.CX P w) (n + 1 + 1) (fa .f__law_call) (fdt .f__law_call) (pas .f__law_call) (spD ⟨K, cA ca, xA ea⟩ 5 (runFn 5 9 (b_f__law_call (csem (n + 1)) (csem n))))
  refine fn_ok (T := ⟨cA ca, xA ea⟩) (np := 5) (N := ["_law_script", "_law_at", "_law_deep", "_law_known", "_law_rules_here", "_law_number", "_law_size", "_law_parts", "_law_k"]) (b := b_f__law_call (csem (n + 1)) (csem n)) (T.fn .f__law_call) sc_f__law_call rfl (fun cdv A outer s H E hr => ?_)
  unfold b_f__law_call
  exact (pssd_cons (psd_asg (pd_call (ih .f__law_drawn) (hr.mono (Nat.le_refl _)) (by rfl) T.mg_f__law_drawn T.kp_f__law_drawn (T.bd .f__law_drawn) (takes_of rfl rfl rfl rfl) (pda_cons (pd_var 0) (pda_cons (pd_bin od_add (pd_var 1) pd_int) (pda_cons (pd_callB cd_len (by rfl) T.z_len (by rfl) (pda_cons (pd_var 4) pda_nil)) pda_nil)))) (pgd_name 5 sc_f__law_call.nd))
    (pssd_cons (psd_asg (pd_callB cd_len (by rfl) T.z_len (by rfl) (pda_cons (pd_sub (hu_of hr) (pd_sub (hu_of hr) (pd_var 4) (pd_var 5)) pd_int) pda_nil)) (pgd_name 6 sc_f__law_call.nd))
    (pssd_cons (psd_asg (pd_lst pda_nil) (pgd_name 7 sc_f__law_call.nd))
    (pssd_cons (psd_for (passes_of rfl) rfl (pid_range1 (by rfl) T.z_range (pd_bin od_add (pd_var 6) (pd_callB cd_len (by rfl) T.z_len (by rfl) (pda_cons (pd_sub (hu_of hr) (pd_sub (hu_of hr) (pd_var 4) (pd_var 5)) pd_int) pda_nil)))) (pgd_name 8 sc_f__law_call.nd) (pssd_one (psd_expr (pd_append (pd_var 7) (pd_call (ih .f__law_deed) (hr.mono (Nat.le_refl _)) (by rfl) T.mg_f__law_deed T.kp_f__law_deed (T.bd .f__law_deed) (takes_of rfl rfl rfl rfl) (pda_cons (pd_var 0) (pda_cons (pd_bin od_add (pd_bin od_add (pd_bin od_mul (pd_var 1) pd_int) pd_int) (pd_bin od_mul pd_int (pd_var 8))) (pda_cons (pd_bin od_sub (pd_var 2) pd_int) (pda_cons (pd_var 3) (pda_cons (pd_var 4) pda_nil))))))))))
    (pssd_one (psd_ret (pd_tup (pda_cons pd_str (pda_cons (pd_var 5) (pda_cons (pd_callTy cd_tuple (by rfl) T.z_tuple (by rfl) (pda_cons (pd_sl (pd_var 7) pod_none (pod_some (pd_var 6))) pda_nil)) (pda_cons (pd_callTy cd_tuple (by rfl) T.z_tuple (by rfl) (pda_cons (pd_sl (pd_var 7) (pod_some (pd_var 6)) pod_none) pda_nil)) pda_nil)))))))))))
theorem sc_f__law_rules : FnScope ["_law_script", "_law_at", "_law_rules_here", "_law_k", "_law_names", "_law_handed", "_law_body"] (pas .f__law_rules) (defScope (stm .f__law_rules)) := ⟨rfl, rfl, rfl, by decide +kernel, rfl, by decide +kernel, by decide +kernel⟩
theorem ok_f__law_rules {n : Nat} (T : Tx K mg fa fdt ca ea) (ih : ∀ i, Ok P w K mg base fa fdt ca ea (n + 1) i) (ih2 : ∀ i, Ok P w K mg base fa fdt ca ea n i) : Ok P w K mg base fa fdt ca ea (n + 2) .f__law_rules := by
  show FnOk P w K mg base (L2.CX P w) (n + 1 + 1) (fa .f__law_rules) (fdt .f__law_rules) (pas .f__law_rules) (spD ⟨K, cA ca, xA ea⟩ 2 (runFn 2 7 (b_f__law_rules (csem (n + 1)) (csem n))))
  refine fn_ok (T := ⟨cA ca, xA ea⟩) (np := 2) (N := ["_law_script", "_law_at", "_law_rules_here", "_law_k", "_law_names", "_law_handed", "_law_body"]) (b := b_f__law_rules (csem (n + 1)) (csem n)) (T.fn .f__law_rules) sc_f__law_rules rfl (fun cdv A outer s H E hr => ?_)
  unfold b_f__law_rules
  exact (pssd_cons (psd_asg (pd_tup pda_nil) (pgd_name 2 sc_f__law_rules.nd))
    (pssd_cons (psd_for (passes_of rfl) rfl (pid_range1 (by rfl) T.z_range (pd_call (ih .f__law_drawn) (hr.mono (Nat.le_refl _)) (by rfl) T.mg_f__law_drawn T.kp_f__law_drawn (T.bd .f__law_drawn) (takes_of rfl rfl rfl rfl) (pda_cons (pd_var 0) (pda_cons (pd_var 1) (pda_cons pd_int pda_nil))))) (pgd_name 3 sc_f__law_rules.nd) (pssd_cons (psd_asg (pd_sub (hu_of hr) (pd_lst (pda_cons (pd_tup pda_nil) (pda_cons (pd_tup (pda_cons pd_str pda_nil)) (pda_cons (pd_tup (pda_cons pd_str (pda_cons pd_str pda_nil))) pda_nil)))) (pd_call (ih .f__law_drawn) (hr.mono (Nat.le_refl _)) (by rfl) T.mg_f__law_drawn T.kp_f__law_drawn (T.bd .f__law_drawn) (takes_of rfl rfl rfl rfl) (pda_cons (pd_var 0) (pda_cons (pd_bin od_add (pd_bin od_add (pd_var 1) pd_int) (pd_bin od_mul pd_int (pd_var 3))) (pda_cons pd_int pda_nil))))) (pgd_name 4 sc_f__law_rules.nd))
    (pssd_cons (psd_asg (pd_sub (hu_of hr) (pd_lst (pda_cons (pd_tup pda_nil) (pda_cons (pd_tup (pda_cons pd_str pda_nil)) (pda_cons (pd_tup (pda_cons pd_str (pda_cons pd_str pda_nil))) pda_nil)))) (pd_call (ih .f__law_drawn) (hr.mono (Nat.le_refl _)) (by rfl) T.mg_f__law_drawn T.kp_f__law_drawn (T.bd .f__law_drawn) (takes_of rfl rfl rfl rfl) (pda_cons (pd_var 0) (pda_cons (pd_bin od_add (pd_bin od_add (pd_var 1) pd_int) (pd_bin od_mul pd_int (pd_var 3))) (pda_cons pd_int pda_nil))))) (pgd_name 5 sc_f__law_rules.nd))
    (pssd_cons (psd_asg (pd_call (ih .f__law_deed) (hr.mono (Nat.le_refl _)) (by rfl) T.mg_f__law_deed T.kp_f__law_deed (T.bd .f__law_deed) (takes_of rfl rfl rfl rfl) (pda_cons (pd_var 0) (pda_cons (pd_bin od_add (pd_bin od_add (pd_var 1) pd_int) (pd_bin od_mul pd_int (pd_var 3))) (pda_cons pd_int (pda_cons (pd_tup (pda_cons (pd_var 4) (pda_cons (pd_tup pda_nil) (pda_cons (pd_var 5) pda_nil)))) (pda_cons (pd_var 2) pda_nil)))))) (pgd_name 6 sc_f__law_rules.nd))
    (pssd_one (psd_asg (pd_bin od_add (pd_var 2) (pd_tup (pda_cons (pd_tup (pda_cons (pd_var 4) (pda_cons (pd_var 5) (pda_cons (pd_var 6) pda_nil)))) pda_nil))) (pgd_name 2 sc_f__law_rules.nd)))))))
    (pssd_one (psd_ret (pd_var 2)))))
theorem sc_f__law_marks : FnScope ["_law_rules_here", "_law_deed_here", "_law_found", "_law_part", "_law_mark", "_law_at", "_law_inner"] (pas .f__law_marks) (defScope (stm .f__law_marks)) := ⟨rfl, rfl, rfl, by decide +kernel, rfl, by decide +kernel, by decide +kernel⟩
theorem ok_f__law_marks {n : Nat} (T : Tx K mg fa fdt ca ea) (ih : ∀ i, Ok P w K mg base fa fdt ca ea (n + 1) i) (ih2 : ∀ i, Ok P w K mg base fa fdt ca ea n i) : Ok P w K mg base fa fdt ca ea (n + 2) .f__law_marks := by
  show FnOk P w K mg base (L2.CX P w) (n + 1 + 1) (fa .f__law_marks) (fdt .f__law_marks) (pas .f__law_marks) (spD ⟨K, cA ca, xA ea⟩ 2 (runFn 2 7 (b_f__law_marks (csem (n + 1)) (csem n))))
  refine fn_ok (T := ⟨cA ca, xA ea⟩) (np := 2) (N := ["_law_rules_here", "_law_deed_here", "_law_found", "_law_part", "_law_mark", "_law_at", "_law_inner"]) (b := b_f__law_marks (csem (n + 1)) (csem n)) (T.fn .f__law_marks) sc_f__law_marks rfl (fun cdv A outer s H E hr => ?_)
  unfold b_f__law_marks
  exact (pssd_cons (psd_if (ptd_cmp (od_eq hr.units) (pd_sub (hu_of hr) (pd_var 1) pd_int) pd_str (nomark _)) (pssd_cons (psd_asg (pd_lst pda_nil) (pgd_name 2 sc_f__law_marks.nd))
    (pssd_cons (psd_for (passes_of rfl) rfl (pid_any (pd_sub (hu_of hr) (pd_var 1) pd_int)) (pgd_name 3 sc_f__law_marks.nd) (pssd_one (psd_asg (pd_bin od_add (pd_var 2) (pd_call (ih .f__law_marks) (hr.mono (Nat.le_refl _)) (by rfl) T.mg_f__law_marks T.kp_f__law_marks (T.bd .f__law_marks) (takes_of rfl rfl rfl rfl) (pda_cons (pd_var 0) (pda_cons (pd_var 3) pda_nil)))) (pgd_name 2 sc_f__law_marks.nd))))
    (pssd_cons (psd_for (passes_of rfl) rfl (pid_any (pd_call (ih .f__law_marks) (hr.mono (Nat.le_refl _)) (by rfl) T.mg_f__law_marks T.kp_f__law_marks (T.bd .f__law_marks) (takes_of rfl rfl rfl rfl) (pda_cons (pd_var 0) (pda_cons (pd_sub (hu_of hr) (pd_sub (hu_of hr) (pd_var 0) (pd_sub (hu_of hr) (pd_var 1) pd_int)) pd_int) pda_nil)))) (pgd_name 4 sc_f__law_marks.nd) (pssd_one (psd_if (ptd_cmp (od_eq hr.units) (pd_sub (hu_of hr) (pd_var 4) pd_int) pd_str (nomark _)) (pssd_one (psd_asg (pd_bin od_add (pd_var 2) (pd_call (ih .f__law_marks) (hr.mono (Nat.le_refl _)) (by rfl) T.mg_f__law_marks T.kp_f__law_marks (T.bd .f__law_marks) (takes_of rfl rfl rfl rfl) (pda_cons (pd_var 0) (pda_cons (pd_sub (hu_of hr) (pd_sub (hu_of hr) (pd_var 1) pd_int) (pd_idxT (pd_sub (hu_of hr) (pd_sub (hu_of hr) (pd_var 0) (pd_sub (hu_of hr) (pd_var 1) pd_int)) pd_int) (pd_sub (hu_of hr) (pd_var 4) pd_int))) pda_nil)))) (pgd_name 2 sc_f__law_marks.nd))) (pssd_one (psd_asg (pd_bin od_add (pd_var 2) (pd_lst (pda_cons (pd_var 4) pda_nil))) (pgd_name 2 sc_f__law_marks.nd))))))
    (pssd_one (psd_ret (pd_ss rfl hr.u65 (by rfl) T.z_sorted (by rfl) T.z_set (pd_var 2))))))) pssd_nil)
    (pssd_cons (psd_asg (pd_bin od_add (pd_bin od_mul (pd_lst (pda_cons (pd_sl (pd_var 1) pod_none (pod_some pd_int)) pda_nil)) (pd_callTy cd_int (by rfl) T.z_int (by rfl) (pda_cons (pd_cmp (od_in hr.u65) (pd_sub (hu_of hr) (pd_var 1) pd_int) (pd_tup (pda_cons pd_str (pda_cons pd_str (pda_cons pd_str pda_nil)))) (by rfl)) pda_nil))) (pd_bin od_mul (pd_lst (pda_cons (pd_var 1) pda_nil)) (pd_callTy cd_int (by rfl) T.z_int (by rfl) (pda_cons (pd_cmp (od_eq hr.units) (pd_var 1) (pd_tup (pda_cons pd_str pda_nil)) (nomark _)) pda_nil)))) (pgd_name 2 sc_f__law_marks.nd))
    (pssd_cons (psd_asg (pd_bin od_add (pd_var 2) (pd_bin od_mul (pd_lst (pda_cons (pd_tup (pda_cons pd_str pda_nil)) pda_nil)) (pd_callTy cd_int (by rfl) T.z_int (by rfl) (pda_cons (pd_cmp (od_eq hr.units) (pd_sub (hu_of hr) (pd_var 1) pd_int) pd_str (nomark _)) pda_nil)))) (pgd_name 2 sc_f__law_marks.nd))
    (pssd_cons (psd_for (passes_of rfl) rfl (pid_enumA (by rfl) T.z_enumerate (pd_var 1)) (pgd_tup (n := 2) rfl (pgd_cons (pgd_name 5 sc_f__law_marks.nd) (pgd_cons (pgd_name 3 sc_f__law_marks.nd) pgd_nil))) (pssd_one (psd_if (ptd_val (pd_isi (by rfl) T.z_isinstance (by rfl) T.z_tuple (by rfl) (by rfl) (pd_var 3))) (pssd_cons (psd_asg (pd_call (ih .f__law_marks) (hr.mono (Nat.le_refl _)) (by rfl) T.mg_f__law_marks T.kp_f__law_marks (T.bd .f__law_marks) (takes_of rfl rfl rfl rfl) (pda_cons (pd_var 0) (pda_cons (pd_var 3) pda_nil))) (pgd_name 6 sc_f__law_marks.nd))
    (pssd_cons (psd_if (PW.pt (pwd_and (ptd_cmp (od_eq hr.units) (pd_sub (hu_of hr) (pd_var 1) pd_int) pd_str (nomark _)) (pwd_and1 (ptd_cmp (od_eq hr.units) (pd_var 5) pd_int (nomark _))))) (pssd_one (psd_setLc 6 (own := [("_law_mark", 4)]) rfl (by exact sc_f__law_marks.nd) (by exact (pid_any (pd_var 6))) (by exact (blkOk_by (own := [("_law_mark", 4)]) (N := ["_law_rules_here", "_law_deed_here", "_law_found", "_law_part", "_law_mark", "_law_at", "_law_inner"]) (sc := defScope (stm .f__law_marks)) (by decide +kernel))) (fun _ _ _ _ _ => by exact (pgd_name 4 sc_f__law_marks.nd)) (fun _ _ _ _ _ => by exact (ptsd_one (ptd_cmp (od_ne hr.units) (pd_sl (pd_var 4) (pod_some pd_int) pod_none) (pd_tup (pda_cons (pd_sub (hu_of hr) (pd_var 1) pd_int) pda_nil)) (nomark _)))) (fun _ _ _ _ _ => by exact (pd_var 4)) (by exact sw_true rfl rfl rfl (by decide +kernel)))) pssd_nil)
    (pssd_one (psd_asg (pd_bin od_add (pd_var 2) (pd_var 6)) (pgd_name 2 sc_f__law_marks.nd))))) pssd_nil)))
    (pssd_one (psd_ret (pd_ss rfl hr.u65 (by rfl) T.z_sorted (by rfl) T.z_set (pd_var 2))))))))
theorem sc_f__law_clash : FnScope ["_law_one", "_law_other", "_law_found", "_law_mine", "_law_yours", "_law_mark", "_law_more"] (pas .f__law_clash) (defScope (stm .f__law_clash)) := ⟨rfl, rfl, rfl, by decide +kernel, rfl, by decide +kernel, by decide +kernel⟩
theorem ok_f__law_clash {n : Nat} (T : Tx K mg fa fdt ca ea) (ih : ∀ i, Ok P w K mg base fa fdt ca ea (n + 1) i) (ih2 : ∀ i, Ok P w K mg base fa fdt ca ea n i) : Ok P w K mg base fa fdt ca ea (n + 2) .f__law_clash := by
  show FnOk P w K mg base (L2.CX P w) (n + 1 + 1) (fa .f__law_clash) (fdt .f__law_clash) (pas .f__law_clash) (spD ⟨K, cA ca, xA ea⟩ 2 (runFn 2 7 (b_f__law_clash (csem (n + 1)) (csem n))))
  refine fn_ok (T := ⟨cA ca, xA ea⟩) (np := 2) (N := ["_law_one", "_law_other", "_law_found", "_law_mine", "_law_yours", "_law_mark", "_law_more"]) (b := b_f__law_clash (csem (n + 1)) (csem n)) (T.fn .f__law_clash) sc_f__law_clash rfl (fun cdv A outer s H E hr => ?_)
  unfold b_f__law_clash
  exact (pssd_cons (psd_setLc 2 (own := [("_law_mark", 5)]) rfl (by exact sc_f__law_clash.nd) (by exact (pid_any (pd_var 0))) (by exact (blkOk_by (own := [("_law_mark", 5)]) (N := ["_law_one", "_law_other", "_law_found", "_law_mine", "_law_yours", "_law_mark", "_law_more"]) (sc := defScope (stm .f__law_clash)) (by decide +kernel))) (fun _ _ _ _ _ => by exact (pgd_name 5 sc_f__law_clash.nd)) (fun _ _ _ _ _ => by exact (ptsd_one (PW.pt (pwd_and (ptd_cmp (od_in hr.u65) (pd_var 5) (pd_tup (pda_cons (pd_tup (pda_cons pd_str pda_nil)) (pda_cons (pd_tup (pda_cons pd_str pda_nil)) pda_nil))) (by rfl)) (pwd_and1 (ptd_cmp (od_in hr.u65) (pd_var 5) (pd_var 1) (by rfl))))))) (fun _ _ _ _ _ => by exact (pd_sub (hu_of hr) (pd_var 5) pd_int)) (by exact sw_true rfl rfl rfl (by decide +kernel)))
    (pssd_cons (psd_for (passes_of rfl) rfl (pid_any (pd_tup (pda_cons (pd_tup (pda_cons (pd_var 0) (pda_cons (pd_var 1) pda_nil))) (pda_cons (pd_tup (pda_cons (pd_var 1) (pda_cons (pd_var 0) pda_nil))) pda_nil)))) (pgd_tup (n := 2) rfl (pgd_cons (pgd_name 3 sc_f__law_clash.nd) (pgd_cons (pgd_name 4 sc_f__law_clash.nd) pgd_nil))) (pssd_one (psd_for (passes_of rfl) rfl (pid_any (pd_var 3)) (pgd_name 5 sc_f__law_clash.nd) (pssd_one (psd_if (PW.pt (pwd_and (ptd_cmp (od_eq hr.units) (pd_sub (hu_of hr) (pd_var 5) pd_int) pd_str (nomark _)) (pwd_and1 (ptd_cmp (od_ne hr.units) (pd_lc (own := [("_law_more", 6)]) rfl (by exact sc_f__law_clash.nd) (by exact (pid_any (pd_var 4))) (by exact (blkOk_by (own := [("_law_more", 6)]) (N := ["_law_one", "_law_other", "_law_found", "_law_mine", "_law_yours", "_law_mark", "_law_more"]) (sc := defScope (stm .f__law_clash)) (by decide +kernel))) (fun _ _ _ _ _ => by exact (pgd_name 6 sc_f__law_clash.nd)) (fun _ _ _ _ _ => by exact (ptsd_one (ptd_cmp (od_eq hr.units) (pd_sl (pd_var 6) (pod_some pd_int) pod_none) (pd_sl (pd_var 5) (pod_some pd_int) pod_none) (nomark _)))) (fun _ _ _ _ _ => by exact (pd_var 6))) (pd_lst pda_nil) (nomark _))))) (pssd_one (psd_expr (pd_append (pd_var 2) (pd_sub (hu_of hr) (pd_var 5) pd_int)))) pssd_nil)))))
    (pssd_one (psd_ret (pd_ss rfl hr.u65 (by rfl) T.z_sorted (by rfl) T.z_set (pd_var 2))))))
theorem sc_f__law_weight : FnScope ["_law_rules_here", "_law_deed_here", "_law_handed", "_law_word", "_law_there", "_law_parts", "_law_inner", "_law_one", "_law_part"] (pas .f__law_weight) (defScope (stm .f__law_weight)) := ⟨rfl, rfl, rfl, by decide +kernel, rfl, by decide +kernel, by decide +kernel⟩
theorem ok_f__law_weight {n : Nat} (T : Tx K mg fa fdt ca ea) (ih : ∀ i, Ok P w K mg base fa fdt ca ea (n + 1) i) (ih2 : ∀ i, Ok P w K mg base fa fdt ca ea n i) : Ok P w K mg base fa fdt ca ea (n + 2) .f__law_weight := by
  show FnOk P w K mg base (L2.CX P w) (n + 1 + 1) (fa .f__law_weight) (fdt .f__law_weight) (pas .f__law_weight) (spD ⟨K, cA ca, xA ea⟩ 3 (runFn 3 9 (b_f__law_weight (csem (n + 1)) (csem n))))
  refine fn_ok (T := ⟨cA ca, xA ea⟩) (np := 3) (N := ["_law_rules_here", "_law_deed_here", "_law_handed", "_law_word", "_law_there", "_law_parts", "_law_inner", "_law_one", "_law_part"]) (b := b_f__law_weight (csem (n + 1)) (csem n)) (T.fn .f__law_weight) sc_f__law_weight rfl (fun cdv A outer s H E hr => ?_)
  unfold b_f__law_weight
  exact (pssd_cons (psd_asg (pd_sub (hu_of hr) (pd_var 1) pd_int) (pgd_name 3 sc_f__law_weight.nd))
    (pssd_cons (psd_if (ptd_cmp (od_in hr.u65) (pd_var 3) (pd_tup (pda_cons pd_str (pda_cons pd_str (pda_cons pd_str (pda_cons pd_str pda_nil))))) (by rfl)) (pssd_one (psd_ret pd_int)) pssd_nil)
    (pssd_cons (psd_if (ptd_cmp (od_eq hr.units) (pd_var 3) pd_str (nomark _)) (pssd_one (psd_ret (pd_get2 (hu_of hr) (pd_var 2) (pd_sub (hu_of hr) (pd_var 1) pd_int) pd_int))) pssd_nil)
    (pssd_cons (psd_if (ptd_cmp (od_eq hr.units) (pd_var 3) pd_str (nomark _)) (pssd_cons (psd_asg (pd_callTy (cd_dict rfl) (by rfl) T.z_dict (by rfl) (pda_cons (pd_lc (own := [("_law_one", 7), ("_law_part", 8)]) rfl (by exact sc_f__law_weight.nd) (by exact (pid_zip (by rfl) T.z_zip (pd_sub (hu_of hr) (pd_sub (hu_of hr) (pd_var 0) (pd_sub (hu_of hr) (pd_var 1) pd_int)) pd_int) (pd_sub (hu_of hr) (pd_var 1) pd_int))) (by exact (blkOk_by (own := [("_law_one", 7), ("_law_part", 8)]) (N := ["_law_rules_here", "_law_deed_here", "_law_handed", "_law_word", "_law_there", "_law_parts", "_law_inner", "_law_one", "_law_part"]) (sc := defScope (stm .f__law_weight)) (by decide +kernel))) (fun _ _ _ _ _ => by exact (pgd_tup (n := 2) rfl (pgd_cons (pgd_name 7 sc_f__law_weight.nd) (pgd_cons (pgd_name 8 sc_f__law_weight.nd) pgd_nil)))) (fun _ _ _ _ _ => by exact ptsd_nil) (fun _ _ _ _ _ => by exact (pd_tup (pda_cons (pd_var 7) (pda_cons (pd_call (ih .f__law_weight) (hr.mono (Nat.le_refl _)) (by rfl) T.mg_f__law_weight T.kp_f__law_weight (T.bd .f__law_weight) takes0 (pda_cons (pd_var 0) (pda_cons (pd_var 8) (pda_cons (pd_var 2) pda_nil)))) pda_nil))))) pda_nil)) (pgd_name 4 sc_f__law_weight.nd))
    (pssd_cons (psd_asg (pd_callB (cd_sum rfl) (by rfl) T.z_sum (by rfl) (pda_cons (pd_lc (own := [("_law_part", 8)]) rfl (by exact sc_f__law_weight.nd) (by exact (pid_any (pd_sub (hu_of hr) (pd_var 1) pd_int))) (by exact (blkOk_by (own := [("_law_part", 8)]) (N := ["_law_rules_here", "_law_deed_here", "_law_handed", "_law_word", "_law_there", "_law_parts", "_law_inner", "_law_one", "_law_part"]) (sc := defScope (stm .f__law_weight)) (by decide +kernel))) (fun _ _ _ _ _ => by exact (pgd_name 8 sc_f__law_weight.nd)) (fun _ _ _ _ _ => by exact ptsd_nil) (fun _ _ _ _ _ => by exact (pd_call (ih .f__law_weight) (hr.mono (Nat.le_refl _)) (by rfl) T.mg_f__law_weight T.kp_f__law_weight (T.bd .f__law_weight) takes0 (pda_cons (pd_var 0) (pda_cons (pd_var 8) (pda_cons (pd_var 2) pda_nil)))))) pda_nil)) (pgd_name 5 sc_f__law_weight.nd))
    (pssd_one (psd_ret (pd_bin od_add (pd_bin od_add pd_int (pd_var 5)) (pd_call (ih .f__law_weight) (hr.mono (Nat.le_refl _)) (by rfl) T.mg_f__law_weight T.kp_f__law_weight (T.bd .f__law_weight) (takes_of rfl rfl rfl rfl) (pda_cons (pd_var 0) (pda_cons (pd_sub (hu_of hr) (pd_sub (hu_of hr) (pd_var 0) (pd_sub (hu_of hr) (pd_var 1) pd_int)) pd_int) (pda_cons (pd_var 4) pda_nil))))))))) pssd_nil)
    (pssd_cons (psd_setLc 6 (own := [("_law_part", 8)]) rfl (by exact sc_f__law_weight.nd) (by exact (pid_any (pd_sl (pd_var 1) (pod_some pd_int) pod_none))) (by exact (blkOk_by (own := [("_law_part", 8)]) (N := ["_law_rules_here", "_law_deed_here", "_law_handed", "_law_word", "_law_there", "_law_parts", "_law_inner", "_law_one", "_law_part"]) (sc := defScope (stm .f__law_weight)) (by decide +kernel))) (fun _ _ _ _ _ => by exact (pgd_name 8 sc_f__law_weight.nd)) (fun _ _ _ _ _ => by exact (ptsd_one (ptd_val (pd_isi (by rfl) T.z_isinstance (by rfl) T.z_tuple (by rfl) (by rfl) (pd_var 8))))) (fun _ _ _ _ _ => by exact (pd_call (ih .f__law_weight) (hr.mono (Nat.le_refl _)) (by rfl) T.mg_f__law_weight T.kp_f__law_weight (T.bd .f__law_weight) takes0 (pda_cons (pd_var 0) (pda_cons (pd_var 8) (pda_cons (pd_var 2) pda_nil))))) (by exact sw_true rfl rfl rfl (by decide +kernel)))
    (pssd_cons (psd_if (ptd_cmp (od_eq hr.units) (pd_var 3) pd_str (nomark _)) (pssd_one (psd_ret (pd_bin od_add (pd_bin od_add pd_int (pd_sub (hu_of hr) (pd_var 6) pd_int)) (pd_bin od_mul pd_int (pd_sub (hu_of hr) (pd_var 6) pd_int))))) pssd_nil)
    (pssd_one (psd_ret (pd_bin od_add pd_int (pd_callB (cd_sum rfl) (by rfl) T.z_sum (by rfl) (pda_cons (pd_var 6) pda_nil)))))))))))
theorem sc_f__law_light : FnScope ["_law_script", "_law_at", "_law_deep", "_law_rules_here", "_law_deed_here"] (pas .f__law_light) (defScope (stm .f__law_light)) := ⟨rfl, rfl, rfl, by decide +kernel, rfl, by decide +kernel, by decide +kernel⟩
theorem ok_f__law_light {n : Nat} (T : Tx K mg fa fdt ca ea) (ih : ∀ i, Ok P w K mg base fa fdt ca ea (n + 1) i) (ih2 : ∀ i, Ok P w K mg base fa fdt ca ea n i) : Ok P w K mg base fa fdt ca ea (n + 2) .f__law_light := by
  show FnOk P w K mg base (L2.CX P w) (n + 1 + 1) (fa .f__law_light) (fdt .f__law_light) (pas .f__law_light) (spD ⟨K, cA ca, xA ea⟩ 4 (runFn 4 5 (b_f__law_light (csem (n + 1)) (csem n))))
  refine fn_ok (T := ⟨cA ca, xA ea⟩) (np := 4) (N := ["_law_script", "_law_at", "_law_deep", "_law_rules_here", "_law_deed_here"]) (b := b_f__law_light (csem (n + 1)) (csem n)) (T.fn .f__law_light) sc_f__law_light rfl (fun cdv A outer s H E hr => ?_)
  unfold b_f__law_light
  exact (pssd_cons (psd_asg (pd_call (ih .f__law_deed) (hr.mono (Nat.le_refl _)) (by rfl) T.mg_f__law_deed T.kp_f__law_deed (T.bd .f__law_deed) (takes_of rfl rfl rfl rfl) (pda_cons (pd_var 0) (pda_cons (pd_var 1) (pda_cons (pd_var 2) (pda_cons (pd_tup (pda_cons (pd_tup pda_nil) (pda_cons (pd_tup pda_nil) (pda_cons (pd_tup pda_nil) pda_nil)))) (pda_cons (pd_var 3) pda_nil)))))) (pgd_name 4 sc_f__law_light.nd))
    (pssd_cons (psd_if (ptd_cmp od_gt (pd_call (ih .f__law_weight) (hr.mono (Nat.le_refl _)) (by rfl) T.mg_f__law_weight T.kp_f__law_weight (T.bd .f__law_weight) (takes_of rfl rfl rfl rfl) (pda_cons (pd_var 3) (pda_cons (pd_var 4) (pda_cons pd_dnew pda_nil)))) pd_int (nomark _)) (pssd_one (psd_ret (pd_tup (pda_cons pd_str (pda_cons (pd_sub (hu_of hr) pd_str (pd_call (ih .f__law_drawn) (hr.mono (Nat.le_refl _)) (by rfl) T.mg_f__law_drawn T.kp_f__law_drawn (T.bd .f__law_drawn) (takes_of rfl rfl rfl rfl) (pda_cons (pd_var 0) (pda_cons (pd_var 1) (pda_cons pd_int pda_nil))))) pda_nil))))) pssd_nil)
    (pssd_one (psd_ret (pd_var 4)))))
theorem sc_f_law : FnScope ["_law_script", "_law_rules_here", "_law_deeds", "_law_marks_here", "_law_couples", "_law_at", "_law_one", "_law_to", "_law_other", "_law_due", "_law_told", "_law_said", "_law_reads", "_law_again", "_law_is_again", "_law_k", "_law_deed_here", "_law_mark"] (pas .f_law) (defScope (stm .f_law)) := ⟨rfl, rfl, rfl, by decide +kernel, rfl, by decide +kernel, by decide +kernel⟩
theorem ok_f_law {n : Nat} (T : Tx K mg fa fdt ca ea) (ih : ∀ i, Ok P w K mg base fa fdt ca ea (n + 1) i) (ih2 : ∀ i, Ok P w K mg base fa fdt ca ea n i) : Ok P w K mg base fa fdt ca ea (n + 2) .f_law := by
  show FnOk P w K mg base (L2.CX P w) (n + 1 + 1) (fa .f_law) (fdt .f_law) (pas .f_law) (spD ⟨K, cA ca, xA ea⟩ 1 (runFn 1 18 (b_f_law (csem (n + 1)) (csem n) (lsem (n + 1)) (lsem n))))
  refine fn_ok (T := ⟨cA ca, xA ea⟩) (np := 1) (N := ["_law_script", "_law_rules_here", "_law_deeds", "_law_marks_here", "_law_couples", "_law_at", "_law_one", "_law_to", "_law_other", "_law_due", "_law_told", "_law_said", "_law_reads", "_law_again", "_law_is_again", "_law_k", "_law_deed_here", "_law_mark"]) (b := b_f_law (csem (n + 1)) (csem n) (lsem (n + 1)) (lsem n)) (T.fn .f_law) sc_f_law rfl (fun cdv A outer s H E hr => ?_)
  unfold b_f_law
  exact (pssd_cons (psd_asg (pd_call (ih .f__law_rules) (hr.mono (Nat.le_refl _)) (by rfl) T.mg_f__law_rules T.kp_f__law_rules (T.bd .f__law_rules) (takes_of rfl rfl rfl rfl) (pda_cons (pd_var 0) (pda_cons pd_int pda_nil))) (pgd_name 1 sc_f_law.nd))
    (pssd_cons (psd_setLc 2 (own := [("_law_k", 15)]) rfl (by exact sc_f_law.nd) (by exact (pid_range1 (by rfl) T.z_range (pd_call (ih .f__law_drawn) (hr.mono (Nat.le_refl _)) (by rfl) T.mg_f__law_drawn T.kp_f__law_drawn (T.bd .f__law_drawn) (takes_of rfl rfl rfl rfl) (pda_cons (pd_var 0) (pda_cons pd_int (pda_cons pd_int pda_nil)))))) (by exact (blkOk_by (own := [("_law_k", 15)]) (N := ["_law_script", "_law_rules_here", "_law_deeds", "_law_marks_here", "_law_couples", "_law_at", "_law_one", "_law_to", "_law_other", "_law_due", "_law_told", "_law_said", "_law_reads", "_law_again", "_law_is_again", "_law_k", "_law_deed_here", "_law_mark"]) (sc := defScope (stm .f_law)) (by decide +kernel))) (fun _ _ _ _ _ => by exact (pgd_name 15 sc_f_law.nd)) (fun _ _ _ _ _ => by exact ptsd_nil) (fun _ _ _ _ _ => by exact (pd_call (ih .f__law_light) (hr.mono (Nat.le_refl _)) (by rfl) T.mg_f__law_light T.kp_f__law_light (T.bd .f__law_light) takes0 (pda_cons (pd_var 0) (pda_cons (pd_bin od_add pd_int (pd_bin od_mul pd_int (pd_var 15))) (pda_cons pd_int (pda_cons (pd_var 1) pda_nil)))))) (by exact sw_true rfl rfl rfl (by decide +kernel)))
    (pssd_cons (psd_setLc 3 (own := [("_law_deed_here", 16)]) rfl (by exact sc_f_law.nd) (by exact (pid_any (pd_var 2))) (by exact (blkOk_by (own := [("_law_deed_here", 16)]) (N := ["_law_script", "_law_rules_here", "_law_deeds", "_law_marks_here", "_law_couples", "_law_at", "_law_one", "_law_to", "_law_other", "_law_due", "_law_told", "_law_said", "_law_reads", "_law_again", "_law_is_again", "_law_k", "_law_deed_here", "_law_mark"]) (sc := defScope (stm .f_law)) (by decide +kernel))) (fun _ _ _ _ _ => by exact (pgd_name 16 sc_f_law.nd)) (fun _ _ _ _ _ => by exact ptsd_nil) (fun _ _ _ _ _ => by exact (pd_call (ih .f__law_marks) (hr.mono (Nat.le_refl _)) (by rfl) T.mg_f__law_marks T.kp_f__law_marks (T.bd .f__law_marks) takes0 (pda_cons (pd_var 1) (pda_cons (pd_var 16) pda_nil)))) (by exact sw_true rfl rfl rfl (by decide +kernel)))
    (pssd_cons (psd_asg (pd_lst pda_nil) (pgd_name 4 sc_f_law.nd))
    (pssd_cons (psd_for (passes_of rfl) rfl (pid_enumA (by rfl) T.z_enumerate (pd_var 2)) (pgd_tup (n := 2) rfl (pgd_cons (pgd_name 5 sc_f_law.nd) (pgd_cons (pgd_name 6 sc_f_law.nd) pgd_nil))) (pssd_cons (psd_for (passes_of rfl) rfl (pid_enumA (by rfl) T.z_enumerate (pd_var 2)) (pgd_tup (n := 2) rfl (pgd_cons (pgd_name 7 sc_f_law.nd) (pgd_cons (pgd_name 8 sc_f_law.nd) pgd_nil))) (pssd_cons (psd_asg (pd_call (ih .f__law_clash) (hr.mono (Nat.le_refl _)) (by rfl) T.mg_f__law_clash T.kp_f__law_clash (T.bd .f__law_clash) (takes_of rfl rfl rfl rfl) (pda_cons (pd_sub (hu_of hr) (pd_var 3) (pd_var 5)) (pda_cons (pd_sub (hu_of hr) (pd_var 3) (pd_var 7)) pda_nil))) (pgd_name 9 sc_f_law.nd))
    (pssd_cons (psd_asg (pd_call (ih .f_clash) (hr.mono (Nat.le_refl _)) (by rfl) T.mg_f_clash T.kp_f_clash (T.bd .f_clash) (takes_of rfl rfl rfl rfl) (pda_cons (pd_var 1) (pda_cons (pd_var 6) (pda_cons (pd_var 8) pda_nil)))) (pgd_name 10 sc_f_law.nd))
    (pssd_cons (psd_asg (pd_call (ih .f_may_go) (hr.mono (Nat.le_refl _)) (by rfl) T.mg_f_may_go T.kp_f_may_go (T.bd .f_may_go) (takes_of rfl rfl rfl rfl) (pda_cons (pd_var 1) (pda_cons (pd_var 6) (pda_cons (pd_var 8) pda_nil)))) (pgd_name 11 sc_f_law.nd))
    (pssd_cons (psd_if (PW.pt (pwd_or (ptd_not (ptd_val (pd_isi (by rfl) T.z_isinstance (by rfl) T.z_list (by rfl) (by rfl) (pd_var 10)))) (pwd_or (ptd_cmp (od_ne hr.units) (pd_var 10) (pd_var 9) (nomark _)) (pwd_or (ptd_not (ptd_val (pd_isi (by rfl) T.z_isinstance (by rfl) T.z_bool (by rfl) (by rfl) (pd_var 11)))) (pwd_or1 (ptd_cmp (od_ne hr.units) (pd_var 11) (pd_cmp (od_eq hr.units) (pd_var 9) (pd_lst pda_nil) (nomark _)) (nomark _))))))) (pssd_one (psd_ret pd_bl)) pssd_nil)
    (pssd_one (psd_if (PW.pt (pwd_and (ptd_cmp od_lt (pd_var 5) (pd_var 7) (nomark _)) (pwd_and1 (ptd_cmp (od_ne hr.units) (pd_var 9) (pd_lst pda_nil) (nomark _))))) (pssd_one (psd_expr (pd_append (pd_var 4) (pd_tup (pda_cons (pd_var 5) (pda_cons (pd_var 7) pda_nil)))))) pssd_nil)))))))
    (pssd_cons (psd_asg (pd_lc (own := [("_law_mark", 17)]) rfl (by exact sc_f_law.nd) (by exact (pid_any (pd_sub (hu_of hr) (pd_var 3) (pd_var 5)))) (by exact (blkOk_by (own := [("_law_mark", 17)]) (N := ["_law_script", "_law_rules_here", "_law_deeds", "_law_marks_here", "_law_couples", "_law_at", "_law_one", "_law_to", "_law_other", "_law_due", "_law_told", "_law_said", "_law_reads", "_law_again", "_law_is_again", "_law_k", "_law_deed_here", "_law_mark"]) (sc := defScope (stm .f_law)) (by decide +kernel))) (fun _ _ _ _ _ => by exact (pgd_name 17 sc_f_law.nd)) (fun _ _ _ _ _ => by exact (ptsd_one (ptd_cmp (od_eq hr.units) (pd_sub (hu_of hr) (pd_var 17) pd_int) pd_str (nomark _)))) (fun _ _ _ _ _ => by exact (pd_sub (hu_of hr) (pd_var 17) pd_int))) (pgd_name 12 sc_f_law.nd))
    (pssd_cons (psd_setLc 13 (own := [("_law_mark", 17)]) rfl (by exact sc_f_law.nd) (by exact (pid_any (pd_sub (hu_of hr) (pd_var 3) (pd_var 5)))) (by exact (blkOk_by (own := [("_law_mark", 17)]) (N := ["_law_script", "_law_rules_here", "_law_deeds", "_law_marks_here", "_law_couples", "_law_at", "_law_one", "_law_to", "_law_other", "_law_due", "_law_told", "_law_said", "_law_reads", "_law_again", "_law_is_again", "_law_k", "_law_deed_here", "_law_mark"]) (sc := defScope (stm .f_law)) (by decide +kernel))) (fun _ _ _ _ _ => by exact (pgd_name 17 sc_f_law.nd)) (fun _ _ _ _ _ => by exact (ptsd_one (PW.pt (pwd_and (ptd_cmp (od_eq hr.units) (pd_sub (hu_of hr) (pd_var 17) pd_int) pd_str (nomark _)) (pwd_and1 (ptd_cmp (od_in hr.u65) (pd_sub (hu_of hr) (pd_var 17) pd_int) (pd_var 12) (by rfl))))))) (fun _ _ _ _ _ => by exact (pd_var 17)) (by exact sw_true rfl rfl rfl (by decide +kernel)))
    (pssd_cons (psd_asg (pd_call (ih .f_goes_twice) (hr.mono (Nat.le_refl _)) (by rfl) T.mg_f_goes_twice T.kp_f_goes_twice (T.bd .f_goes_twice) (takes_of rfl rfl rfl rfl) (pda_cons (pd_var 1) (pda_cons (pd_var 6) pda_nil))) (pgd_name 11 sc_f_law.nd))
    (pssd_cons (psd_asg (pd_and (pd_cmp (od_eq hr.units) (pd_var 13) (pd_lst pda_nil) (nomark _)) (pd_and (pd_cmp (od_notIn hr.u65) (pd_tup (pda_cons pd_str pda_nil)) (pd_sub (hu_of hr) (pd_var 3) (pd_var 5)) (by rfl)) (pd_one (pd_cmp (od_notIn hr.u65) (pd_tup (pda_cons pd_str pda_nil)) (pd_sub (hu_of hr) (pd_var 3) (pd_var 5)) (by rfl))))) (pgd_name 14 sc_f_law.nd))
    (pssd_one (psd_if (PW.pt (pwd_or (ptd_not (ptd_val (pd_isi (by rfl) T.z_isinstance (by rfl) T.z_bool (by rfl) (by rfl) (pd_var 11)))) (pwd_or1 (ptd_cmp (od_ne hr.units) (pd_var 11) (pd_var 14) (nomark _))))) (pssd_one (psd_ret pd_bl)) pssd_nil))))))))
    (pssd_cons (psd_asg (pd_call (ih .f_all_may_go) (hr.mono (Nat.le_refl _)) (by rfl) T.mg_f_all_may_go T.kp_f_all_may_go (T.bd .f_all_may_go) (takes_of rfl rfl rfl rfl) (pda_cons (pd_var 1) (pda_cons (pd_var 2) pda_nil))) (pgd_name 11 sc_f_law.nd))
    (pssd_one (psd_ret (pd_and (pd_cmp (od_eq hr.units) (pd_call (ih .f_clashing) (hr.mono (Nat.le_refl _)) (by rfl) T.mg_f_clashing T.kp_f_clashing (T.bd .f_clashing) (takes_of rfl rfl rfl rfl) (pda_cons (pd_var 1) (pda_cons (pd_var 2) pda_nil))) (pd_var 4) (nomark _)) (pd_and (pd_isi (by rfl) T.z_isinstance (by rfl) T.z_bool (by rfl) (by rfl) (pd_var 11)) (pd_one (pd_cmp (od_eq hr.units) (pd_var 11) (pd_cmp (od_eq hr.units) (pd_var 4) (pd_lst pda_nil) (nomark _)) (nomark _)))))))))))))
theorem all_ok (T : Tx K mg fa fdt ca ea) : ∀ n, (∀ i, Ok P w K mg base fa fdt ca ea n i) ∧ ∀ i, Ok P w K mg base fa fdt ca ea (n + 1) i
  | 0 => ⟨fun i => by cases i <;> exact fn_zero, fun i => by cases i <;> exact fn_zero.mono (Nat.zero_le _)⟩
  | n + 1 => by
    obtain ⟨h2, h1⟩ := all_ok T n
    refine ⟨h1, fun i => ?_⟩
    cases i
    · exact ok_f_parts_of T h1 h2
    · exact ok_f_marks_of T h1 h2
    · exact ok_f_once T h1 h2
    · exact ok_f_call_marks T h1 h2
    · exact ok_f_touches T h1 h2
    · exact ok_f_is_met T h1 h2
    · exact ok_f_clash T h1 h2
    · exact ok_f_may_go T h1 h2
    · exact ok_f_all_may_go T h1 h2
    · exact ok_f_clashing T h1 h2
    · exact ok_f_goes_twice T h1 h2
    · exact ok_f__law_cell T h1 h2
    · exact ok_f__law_drawn T h1 h2
    · exact ok_f__law_leaf T h1 h2
    · exact ok_f__law_deed T h1 h2
    · exact ok_f__law_call T h1 h2
    · exact ok_f__law_rules T h1 h2
    · exact ok_f__law_marks T h1 h2
    · exact ok_f__law_clash T h1 h2
    · exact ok_f__law_weight T h1 h2
    · exact ok_f__law_light T h1 h2
    · exact ok_f_law T h1 h2
end
def spLaw (K : PySem.W.Frag) : Sp := fun vs H Q _ => ∃ (a : Addr) (ns : List Int), vs = [.ref a] ∧ SqL K H a (ns.map V.int) ∧ Only H ∧ ns.length ≤ 63 ∧ ∀ H', Q (.bl true) H'
def lev : Nat := 231
theorem sp_law {K : PySem.W.Frag} {ca : Cid → Addr} {ea : Eid → Addr} (vs : List V) (H : Hp) (Q : VK) (E : XK) (h : spLaw K vs H Q E) : spD ⟨K, cA ca, xA ea⟩ 1 (lsem lev .f_law) vs H Q E := by
  obtain ⟨a, ns, rfl, hq, hO, hl, k⟩ := h
  obtain ⟨S, e⟩ := law_true ns hl
  refine ⟨[], [], [.seq (ns.map .int)], rfl, hs_nil _ _, .cons ?_ .nil, ?_⟩
  · exact rv_script hO hq
  · have e2 : lsem lev .f_law [.seq (ns.map .int)] [] = .ok (.bl true) S := e
    rw [e2]
    rintro v μ' H' g hs r
    cases r
    exact k H'
theorem all_mk {l : PySem.W.OpenLaw} {w : World} {K : PySem.W.Frag} {h : Heap} {mg : Str → Option Value} {f_a : Addr} (X : K.In h) (G : h.Ns mainGlobals mg) (hfa : mg "law" = some (.ref f_a))
    {a0 : Addr} {od0 an0 : Option Addr} {sl0 : Array (Option Value)} {oc0 kV0 dc0 pm0 cd0 ct0 : Value}
    {a1 : Addr} {od1 an1 : Option Addr} {sl1 : Array (Option Value)} {oc1 kV1 dc1 pm1 cd1 ct1 : Value}
    {a2 : Addr} {od2 an2 : Option Addr} {sl2 : Array (Option Value)} {oc2 kV2 dc2 pm2 cd2 ct2 : Value}
    {a3 : Addr} {od3 an3 : Option Addr} {sl3 : Array (Option Value)} {oc3 kV3 dc3 pm3 cd3 ct3 : Value}
    {a4 : Addr} {od4 an4 : Option Addr} {sl4 : Array (Option Value)} {oc4 kV4 dc4 pm4 cd4 ct4 : Value}
    {a5 : Addr} {od5 an5 : Option Addr} {sl5 : Array (Option Value)} {oc5 kV5 dc5 pm5 cd5 ct5 : Value}
    {a6 : Addr} {od6 an6 : Option Addr} {sl6 : Array (Option Value)} {oc6 kV6 dc6 pm6 cd6 ct6 : Value}
    {a7 : Addr} {od7 an7 : Option Addr} {sl7 : Array (Option Value)} {oc7 kV7 dc7 pm7 cd7 ct7 : Value}
    {a8 : Addr} {od8 an8 : Option Addr} {sl8 : Array (Option Value)} {oc8 kV8 dc8 pm8 cd8 ct8 : Value}
    {a9 : Addr} {od9 an9 : Option Addr} {sl9 : Array (Option Value)} {oc9 kV9 dc9 pm9 cd9 ct9 : Value}
    {a10 : Addr} {od10 an10 : Option Addr} {sl10 : Array (Option Value)} {oc10 kV10 dc10 pm10 cd10 ct10 : Value}
    {a11 : Addr} {od11 an11 : Option Addr} {sl11 : Array (Option Value)} {oc11 kV11 dc11 pm11 cd11 ct11 : Value}
    {a12 : Addr} {od12 an12 : Option Addr} {sl12 : Array (Option Value)} {oc12 kV12 dc12 pm12 cd12 ct12 : Value}
    {a13 : Addr} {od13 an13 : Option Addr} {sl13 : Array (Option Value)} {oc13 kV13 dc13 pm13 cd13 ct13 : Value}
    {a14 : Addr} {od14 an14 : Option Addr} {sl14 : Array (Option Value)} {oc14 kV14 dc14 pm14 cd14 ct14 : Value}
    {a15 : Addr} {od15 an15 : Option Addr} {sl15 : Array (Option Value)} {oc15 kV15 dc15 pm15 cd15 ct15 : Value}
    {a16 : Addr} {od16 an16 : Option Addr} {sl16 : Array (Option Value)} {oc16 kV16 dc16 pm16 cd16 ct16 : Value}
    {a17 : Addr} {od17 an17 : Option Addr} {sl17 : Array (Option Value)} {oc17 kV17 dc17 pm17 cd17 ct17 : Value}
    {a18 : Addr} {od18 an18 : Option Addr} {sl18 : Array (Option Value)} {oc18 kV18 dc18 pm18 cd18 ct18 : Value}
    {a19 : Addr} {od19 an19 : Option Addr} {sl19 : Array (Option Value)} {oc19 kV19 dc19 pm19 cd19 ct19 : Value}
    {a20 : Addr} {od20 an20 : Option Addr} {sl20 : Array (Option Value)} {oc20 kV20 dc20 pm20 cd20 ct20 : Value}
    {a21 : Addr} {od21 an21 : Option Addr} {sl21 : Array (Option Value)} {oc21 kV21 dc21 pm21 cd21 ct21 : Value}
    (a_0 : PySem.W.nsIn K mainGlobals "parts_of" = some (some (.ref a0)))
    (l_0 : K.lookup a0 = some ⟨oc0, od0, .func (PySem.W.fnOf "parts_of" "parts_of" (defArgs (stm .f_parts_of)) (defBody (stm .f_parts_of)) (defScope (stm .f_parts_of)) .none kV0 dc0 pm0 an0 cd0 ct0), sl0⟩)
    (c_0 : PySem.W.codeIn K cd0 "parts_of" = true)
    (k_0 : PySem.W.keepIn K (.ref a0) = true)
    (a_1 : PySem.W.nsIn K mainGlobals "marks_of" = some (some (.ref a1)))
    (l_1 : K.lookup a1 = some ⟨oc1, od1, .func (PySem.W.fnOf "marks_of" "marks_of" (defArgs (stm .f_marks_of)) (defBody (stm .f_marks_of)) (defScope (stm .f_marks_of)) .none kV1 dc1 pm1 an1 cd1 ct1), sl1⟩)
    (c_1 : PySem.W.codeIn K cd1 "marks_of" = true)
    (k_1 : PySem.W.keepIn K (.ref a1) = true)
    (a_2 : PySem.W.nsIn K mainGlobals "once" = some (some (.ref a2)))
    (l_2 : K.lookup a2 = some ⟨oc2, od2, .func (PySem.W.fnOf "once" "once" (defArgs (stm .f_once)) (defBody (stm .f_once)) (defScope (stm .f_once)) .none kV2 dc2 pm2 an2 cd2 ct2), sl2⟩)
    (c_2 : PySem.W.codeIn K cd2 "once" = true)
    (k_2 : PySem.W.keepIn K (.ref a2) = true)
    (a_3 : PySem.W.nsIn K mainGlobals "call_marks" = some (some (.ref a3)))
    (l_3 : K.lookup a3 = some ⟨oc3, od3, .func (PySem.W.fnOf "call_marks" "call_marks" (defArgs (stm .f_call_marks)) (defBody (stm .f_call_marks)) (defScope (stm .f_call_marks)) .none kV3 dc3 pm3 an3 cd3 ct3), sl3⟩)
    (c_3 : PySem.W.codeIn K cd3 "call_marks" = true)
    (k_3 : PySem.W.keepIn K (.ref a3) = true)
    (a_4 : PySem.W.nsIn K mainGlobals "touches" = some (some (.ref a4)))
    (l_4 : K.lookup a4 = some ⟨oc4, od4, .func (PySem.W.fnOf "touches" "touches" (defArgs (stm .f_touches)) (defBody (stm .f_touches)) (defScope (stm .f_touches)) .none kV4 dc4 pm4 an4 cd4 ct4), sl4⟩)
    (c_4 : PySem.W.codeIn K cd4 "touches" = true)
    (k_4 : PySem.W.keepIn K (.ref a4) = true)
    (a_5 : PySem.W.nsIn K mainGlobals "is_met" = some (some (.ref a5)))
    (l_5 : K.lookup a5 = some ⟨oc5, od5, .func (PySem.W.fnOf "is_met" "is_met" (defArgs (stm .f_is_met)) (defBody (stm .f_is_met)) (defScope (stm .f_is_met)) .none kV5 dc5 pm5 an5 cd5 ct5), sl5⟩)
    (c_5 : PySem.W.codeIn K cd5 "is_met" = true)
    (k_5 : PySem.W.keepIn K (.ref a5) = true)
    (a_6 : PySem.W.nsIn K mainGlobals "clash" = some (some (.ref a6)))
    (l_6 : K.lookup a6 = some ⟨oc6, od6, .func (PySem.W.fnOf "clash" "clash" (defArgs (stm .f_clash)) (defBody (stm .f_clash)) (defScope (stm .f_clash)) .none kV6 dc6 pm6 an6 cd6 ct6), sl6⟩)
    (c_6 : PySem.W.codeIn K cd6 "clash" = true)
    (k_6 : PySem.W.keepIn K (.ref a6) = true)
    (a_7 : PySem.W.nsIn K mainGlobals "may_go" = some (some (.ref a7)))
    (l_7 : K.lookup a7 = some ⟨oc7, od7, .func (PySem.W.fnOf "may_go" "may_go" (defArgs (stm .f_may_go)) (defBody (stm .f_may_go)) (defScope (stm .f_may_go)) .none kV7 dc7 pm7 an7 cd7 ct7), sl7⟩)
    (c_7 : PySem.W.codeIn K cd7 "may_go" = true)
    (k_7 : PySem.W.keepIn K (.ref a7) = true)
    (a_8 : PySem.W.nsIn K mainGlobals "all_may_go" = some (some (.ref a8)))
    (l_8 : K.lookup a8 = some ⟨oc8, od8, .func (PySem.W.fnOf "all_may_go" "all_may_go" (defArgs (stm .f_all_may_go)) (defBody (stm .f_all_may_go)) (defScope (stm .f_all_may_go)) .none kV8 dc8 pm8 an8 cd8 ct8), sl8⟩)
    (c_8 : PySem.W.codeIn K cd8 "all_may_go" = true)
    (k_8 : PySem.W.keepIn K (.ref a8) = true)
    (a_9 : PySem.W.nsIn K mainGlobals "clashing" = some (some (.ref a9)))
    (l_9 : K.lookup a9 = some ⟨oc9, od9, .func (PySem.W.fnOf "clashing" "clashing" (defArgs (stm .f_clashing)) (defBody (stm .f_clashing)) (defScope (stm .f_clashing)) .none kV9 dc9 pm9 an9 cd9 ct9), sl9⟩)
    (c_9 : PySem.W.codeIn K cd9 "clashing" = true)
    (k_9 : PySem.W.keepIn K (.ref a9) = true)
    (a_10 : PySem.W.nsIn K mainGlobals "goes_twice" = some (some (.ref a10)))
    (l_10 : K.lookup a10 = some ⟨oc10, od10, .func (PySem.W.fnOf "goes_twice" "goes_twice" (defArgs (stm .f_goes_twice)) (defBody (stm .f_goes_twice)) (defScope (stm .f_goes_twice)) .none kV10 dc10 pm10 an10 cd10 ct10), sl10⟩)
    (c_10 : PySem.W.codeIn K cd10 "goes_twice" = true)
    (k_10 : PySem.W.keepIn K (.ref a10) = true)
    (a_11 : PySem.W.nsIn K mainGlobals "_law_cell" = some (some (.ref a11)))
    (l_11 : K.lookup a11 = some ⟨oc11, od11, .func (PySem.W.fnOf "_law_cell" "_law_cell" (defArgs (stm .f__law_cell)) (defBody (stm .f__law_cell)) (defScope (stm .f__law_cell)) .none kV11 dc11 pm11 an11 cd11 ct11), sl11⟩)
    (c_11 : PySem.W.codeIn K cd11 "_law_cell" = true)
    (k_11 : PySem.W.keepIn K (.ref a11) = true)
    (a_12 : PySem.W.nsIn K mainGlobals "_law_drawn" = some (some (.ref a12)))
    (l_12 : K.lookup a12 = some ⟨oc12, od12, .func (PySem.W.fnOf "_law_drawn" "_law_drawn" (defArgs (stm .f__law_drawn)) (defBody (stm .f__law_drawn)) (defScope (stm .f__law_drawn)) .none kV12 dc12 pm12 an12 cd12 ct12), sl12⟩)
    (c_12 : PySem.W.codeIn K cd12 "_law_drawn" = true)
    (k_12 : PySem.W.keepIn K (.ref a12) = true)
    (a_13 : PySem.W.nsIn K mainGlobals "_law_leaf" = some (some (.ref a13)))
    (l_13 : K.lookup a13 = some ⟨oc13, od13, .func (PySem.W.fnOf "_law_leaf" "_law_leaf" (defArgs (stm .f__law_leaf)) (defBody (stm .f__law_leaf)) (defScope (stm .f__law_leaf)) .none kV13 dc13 pm13 an13 cd13 ct13), sl13⟩)
    (c_13 : PySem.W.codeIn K cd13 "_law_leaf" = true)
    (k_13 : PySem.W.keepIn K (.ref a13) = true)
    (a_14 : PySem.W.nsIn K mainGlobals "_law_deed" = some (some (.ref a14)))
    (l_14 : K.lookup a14 = some ⟨oc14, od14, .func (PySem.W.fnOf "_law_deed" "_law_deed" (defArgs (stm .f__law_deed)) (defBody (stm .f__law_deed)) (defScope (stm .f__law_deed)) .none kV14 dc14 pm14 an14 cd14 ct14), sl14⟩)
    (c_14 : PySem.W.codeIn K cd14 "_law_deed" = true)
    (k_14 : PySem.W.keepIn K (.ref a14) = true)
    (a_15 : PySem.W.nsIn K mainGlobals "_law_call" = some (some (.ref a15)))
    (l_15 : K.lookup a15 = some ⟨oc15, od15, .func (PySem.W.fnOf "_law_call" "_law_call" (defArgs (stm .f__law_call)) (defBody (stm .f__law_call)) (defScope (stm .f__law_call)) .none kV15 dc15 pm15 an15 cd15 ct15), sl15⟩)
    (c_15 : PySem.W.codeIn K cd15 "_law_call" = true)
    (k_15 : PySem.W.keepIn K (.ref a15) = true)
    (a_16 : PySem.W.nsIn K mainGlobals "_law_rules" = some (some (.ref a16)))
    (l_16 : K.lookup a16 = some ⟨oc16, od16, .func (PySem.W.fnOf "_law_rules" "_law_rules" (defArgs (stm .f__law_rules)) (defBody (stm .f__law_rules)) (defScope (stm .f__law_rules)) .none kV16 dc16 pm16 an16 cd16 ct16), sl16⟩)
    (c_16 : PySem.W.codeIn K cd16 "_law_rules" = true)
    (k_16 : PySem.W.keepIn K (.ref a16) = true)
    (a_17 : PySem.W.nsIn K mainGlobals "_law_marks" = some (some (.ref a17)))
    (l_17 : K.lookup a17 = some ⟨oc17, od17, .func (PySem.W.fnOf "_law_marks" "_law_marks" (defArgs (stm .f__law_marks)) (defBody (stm .f__law_marks)) (defScope (stm .f__law_marks)) .none kV17 dc17 pm17 an17 cd17 ct17), sl17⟩)
    (c_17 : PySem.W.codeIn K cd17 "_law_marks" = true)
    (k_17 : PySem.W.keepIn K (.ref a17) = true)
    (a_18 : PySem.W.nsIn K mainGlobals "_law_clash" = some (some (.ref a18)))
    (l_18 : K.lookup a18 = some ⟨oc18, od18, .func (PySem.W.fnOf "_law_clash" "_law_clash" (defArgs (stm .f__law_clash)) (defBody (stm .f__law_clash)) (defScope (stm .f__law_clash)) .none kV18 dc18 pm18 an18 cd18 ct18), sl18⟩)
    (c_18 : PySem.W.codeIn K cd18 "_law_clash" = true)
    (k_18 : PySem.W.keepIn K (.ref a18) = true)
    (a_19 : PySem.W.nsIn K mainGlobals "_law_weight" = some (some (.ref a19)))
    (l_19 : K.lookup a19 = some ⟨oc19, od19, .func (PySem.W.fnOf "_law_weight" "_law_weight" (defArgs (stm .f__law_weight)) (defBody (stm .f__law_weight)) (defScope (stm .f__law_weight)) .none kV19 dc19 pm19 an19 cd19 ct19), sl19⟩)
    (c_19 : PySem.W.codeIn K cd19 "_law_weight" = true)
    (k_19 : PySem.W.keepIn K (.ref a19) = true)
    (a_20 : PySem.W.nsIn K mainGlobals "_law_light" = some (some (.ref a20)))
    (l_20 : K.lookup a20 = some ⟨oc20, od20, .func (PySem.W.fnOf "_law_light" "_law_light" (defArgs (stm .f__law_light)) (defBody (stm .f__law_light)) (defScope (stm .f__law_light)) .none kV20 dc20 pm20 an20 cd20 ct20), sl20⟩)
    (c_20 : PySem.W.codeIn K cd20 "_law_light" = true)
    (k_20 : PySem.W.keepIn K (.ref a20) = true)
    (a_21 : PySem.W.nsIn K mainGlobals "law" = some (some (.ref a21)))
    (l_21 : K.lookup a21 = some ⟨oc21, od21, .func (PySem.W.fnOf "law" "law" (defArgs (stm .f_law)) (defBody (stm .f_law)) (defScope (stm .f_law)) .none kV21 dc21 pm21 an21 cd21 ct21), sl21⟩)
    (c_21 : PySem.W.codeIn K cd21 "law" = true)
    (k_21 : PySem.W.keepIn K (.ref a21) = true)
    (z_all : PySem.W.nsIn K mainGlobals "all" = some none)
    (z_any : PySem.W.nsIn K mainGlobals "any" = some none)
    (z_bool : PySem.W.nsIn K mainGlobals "bool" = some none)
    (z_dict : PySem.W.nsIn K mainGlobals "dict" = some none)
    (z_enumerate : PySem.W.nsIn K mainGlobals "enumerate" = some none)
    (z_int : PySem.W.nsIn K mainGlobals "int" = some none)
    (z_isinstance : PySem.W.nsIn K mainGlobals "isinstance" = some none)
    (z_len : PySem.W.nsIn K mainGlobals "len" = some none)
    (z_list : PySem.W.nsIn K mainGlobals "list" = some none)
    (z_range : PySem.W.nsIn K mainGlobals "range" = some none)
    (z_set : PySem.W.nsIn K mainGlobals "set" = some none)
    (z_sorted : PySem.W.nsIn K mainGlobals "sorted" = some none)
    (z_sum : PySem.W.nsIn K mainGlobals "sum" = some none)
    (z_tuple : PySem.W.nsIn K mainGlobals "tuple" = some none)
    (z_zip : PySem.W.nsIn K mainGlobals "zip" = some none)
    : ∃ fd : FuncData, (∀ (s : Shared) (v : Value), BindsTo s fd ⟨[v], []⟩ [("_law_script", v)]) ∧ ∀ base : Heap, K.In base → base.Ns mainGlobals mg → FnOk l.prog w K mg base (L2.CX l.prog w) lev f_a fd ["_law_script"] (spLaw K) := by
  have e := hfa.symm.trans (PySem.W.mg_of X G a_21)
  cases e
  have F0 := fun_mk (st := stm .f_parts_of) l_0 c_0 k_0
  have B0 := F0.binds (ps := pas .f_parts_of) fun _ _ _ _ _ _ us hl => match us, hl with | [_], _ => rfl
  have F1 := fun_mk (st := stm .f_marks_of) l_1 c_1 k_1
  have B1 := F1.binds (ps := pas .f_marks_of) fun _ _ _ _ _ _ us hl => match us, hl with | [_, _], _ => rfl
  have F2 := fun_mk (st := stm .f_once) l_2 c_2 k_2
  have B2 := F2.binds (ps := pas .f_once) fun _ _ _ _ _ _ us hl => match us, hl with | [_], _ => rfl
  have F3 := fun_mk (st := stm .f_call_marks) l_3 c_3 k_3
  have B3 := F3.binds (ps := pas .f_call_marks) fun _ _ _ _ _ _ us hl => match us, hl with | [_, _], _ => rfl
  have F4 := fun_mk (st := stm .f_touches) l_4 c_4 k_4
  have B4 := F4.binds (ps := pas .f_touches) fun _ _ _ _ _ _ us hl => match us, hl with | [_, _], _ => rfl
  have F5 := fun_mk (st := stm .f_is_met) l_5 c_5 k_5
  have B5 := F5.binds (ps := pas .f_is_met) fun _ _ _ _ _ _ us hl => match us, hl with | [_, _], _ => rfl
  have F6 := fun_mk (st := stm .f_clash) l_6 c_6 k_6
  have B6 := F6.binds (ps := pas .f_clash) fun _ _ _ _ _ _ us hl => match us, hl with | [_, _, _], _ => rfl
  have F7 := fun_mk (st := stm .f_may_go) l_7 c_7 k_7
  have B7 := F7.binds (ps := pas .f_may_go) fun _ _ _ _ _ _ us hl => match us, hl with | [_, _, _], _ => rfl
  have F8 := fun_mk (st := stm .f_all_may_go) l_8 c_8 k_8
  have B8 := F8.binds (ps := pas .f_all_may_go) fun _ _ _ _ _ _ us hl => match us, hl with | [_, _], _ => rfl
  have F9 := fun_mk (st := stm .f_clashing) l_9 c_9 k_9
  have B9 := F9.binds (ps := pas .f_clashing) fun _ _ _ _ _ _ us hl => match us, hl with | [_, _], _ => rfl
  have F10 := fun_mk (st := stm .f_goes_twice) l_10 c_10 k_10
  have B10 := F10.binds (ps := pas .f_goes_twice) fun _ _ _ _ _ _ us hl => match us, hl with | [_, _], _ => rfl
  have F11 := fun_mk (st := stm .f__law_cell) l_11 c_11 k_11
  have B11 := F11.binds (ps := pas .f__law_cell) fun _ _ _ _ _ _ us hl => match us, hl with | [_, _], _ => rfl
  have F12 := fun_mk (st := stm .f__law_drawn) l_12 c_12 k_12
  have B12 := F12.binds (ps := pas .f__law_drawn) fun _ _ _ _ _ _ us hl => match us, hl with | [_, _, _], _ => rfl
  have F13 := fun_mk (st := stm .f__law_leaf) l_13 c_13 k_13
  have B13 := F13.binds (ps := pas .f__law_leaf) fun _ _ _ _ _ _ us hl => match us, hl with | [_, _, _], _ => rfl
  have F14 := fun_mk (st := stm .f__law_deed) l_14 c_14 k_14
  have B14 := F14.binds (ps := pas .f__law_deed) fun _ _ _ _ _ _ us hl => match us, hl with | [_, _, _, _, _], _ => rfl
  have F15 := fun_mk (st := stm .f__law_call) l_15 c_15 k_15
  have B15 := F15.binds (ps := pas .f__law_call) fun _ _ _ _ _ _ us hl => match us, hl with | [_, _, _, _, _], _ => rfl
  have F16 := fun_mk (st := stm .f__law_rules) l_16 c_16 k_16
  have B16 := F16.binds (ps := pas .f__law_rules) fun _ _ _ _ _ _ us hl => match us, hl with | [_, _], _ => rfl
  have F17 := fun_mk (st := stm .f__law_marks) l_17 c_17 k_17
  have B17 := F17.binds (ps := pas .f__law_marks) fun _ _ _ _ _ _ us hl => match us, hl with | [_, _], _ => rfl
  have F18 := fun_mk (st := stm .f__law_clash) l_18 c_18 k_18
  have B18 := F18.binds (ps := pas .f__law_clash) fun _ _ _ _ _ _ us hl => match us, hl with | [_, _], _ => rfl
  have F19 := fun_mk (st := stm .f__law_weight) l_19 c_19 k_19
  have B19 := F19.binds (ps := pas .f__law_weight) fun _ _ _ _ _ _ us hl => match us, hl with | [_, _, _], _ => rfl
  have F20 := fun_mk (st := stm .f__law_light) l_20 c_20 k_20
  have B20 := F20.binds (ps := pas .f__law_light) fun _ _ _ _ _ _ us hl => match us, hl with | [_, _, _, _], _ => rfl
  have F21 := fun_mk (st := stm .f_law) l_21 c_21 k_21
  have B21 := F21.binds (ps := pas .f_law) fun _ _ _ _ _ _ us hl => match us, hl with | [_], _ => rfl
  let fa : Fid → Addr := fun i => match i with | .f_parts_of => a0 | .f_marks_of => a1 | .f_once => a2 | .f_call_marks => a3 | .f_touches => a4 | .f_is_met => a5 | .f_clash => a6 | .f_may_go => a7 | .f_all_may_go => a8 | .f_clashing => a9 | .f_goes_twice => a10 | .f__law_cell => a11 | .f__law_drawn => a12 | .f__law_leaf => a13 | .f__law_deed => a14 | .f__law_call => a15 | .f__law_rules => a16 | .f__law_marks => a17 | .f__law_clash => a18 | .f__law_weight => a19 | .f__law_light => a20 | .f_law => f_a
  let fdt : Fid → FuncData := fun i => match i with | .f_parts_of => PySem.W.fnOf "parts_of" "parts_of" (defArgs (stm .f_parts_of)) (defBody (stm .f_parts_of)) (defScope (stm .f_parts_of)) .none kV0 dc0 pm0 an0 cd0 ct0 | .f_marks_of => PySem.W.fnOf "marks_of" "marks_of" (defArgs (stm .f_marks_of)) (defBody (stm .f_marks_of)) (defScope (stm .f_marks_of)) .none kV1 dc1 pm1 an1 cd1 ct1 | .f_once => PySem.W.fnOf "once" "once" (defArgs (stm .f_once)) (defBody (stm .f_once)) (defScope (stm .f_once)) .none kV2 dc2 pm2 an2 cd2 ct2 | .f_call_marks => PySem.W.fnOf "call_marks" "call_marks" (defArgs (stm .f_call_marks)) (defBody (stm .f_call_marks)) (defScope (stm .f_call_marks)) .none kV3 dc3 pm3 an3 cd3 ct3 | .f_touches => PySem.W.fnOf "touches" "touches" (defArgs (stm .f_touches)) (defBody (stm .f_touches)) (defScope (stm .f_touches)) .none kV4 dc4 pm4 an4 cd4 ct4 | .f_is_met => PySem.W.fnOf "is_met" "is_met" (defArgs (stm .f_is_met)) (defBody (stm .f_is_met)) (defScope (stm .f_is_met)) .none kV5 dc5 pm5 an5 cd5 ct5 | .f_clash => PySem.W.fnOf "clash" "clash" (defArgs (stm .f_clash)) (defBody (stm .f_clash)) (defScope (stm .f_clash)) .none kV6 dc6 pm6 an6 cd6 ct6 | .f_may_go => PySem.W.fnOf "may_go" "may_go" (defArgs (stm .f_may_go)) (defBody (stm .f_may_go)) (defScope (stm .f_may_go)) .none kV7 dc7 pm7 an7 cd7 ct7 | .f_all_may_go => PySem.W.fnOf "all_may_go" "all_may_go" (defArgs (stm .f_all_may_go)) (defBody (stm .f_all_may_go)) (defScope (stm .f_all_may_go)) .none kV8 dc8 pm8 an8 cd8 ct8 | .f_clashing => PySem.W.fnOf "clashing" "clashing" (defArgs (stm .f_clashing)) (defBody (stm .f_clashing)) (defScope (stm .f_clashing)) .none kV9 dc9 pm9 an9 cd9 ct9 | .f_goes_twice => PySem.W.fnOf "goes_twice" "goes_twice" (defArgs (stm .f_goes_twice)) (defBody (stm .f_goes_twice)) (defScope (stm .f_goes_twice)) .none kV10 dc10 pm10 an10 cd10 ct10 | .f__law_cell => PySem.W.fnOf "_law_cell" "_law_cell" (defArgs (stm .f__law_cell)) (defBody (stm .f__law_cell)) (defScope (stm .f__law_cell)) .none kV11 dc11 pm11 an11 cd11 ct11 | .f__law_drawn => PySem.W.fnOf "_law_drawn" "_law_drawn" (defArgs (stm .f__law_drawn)) (defBody (stm .f__law_drawn)) (defScope (stm .f__law_drawn)) .none kV12 dc12 pm12 an12 cd12 ct12 | .f__law_leaf => PySem.W.fnOf "_law_leaf" "_law_leaf" (defArgs (stm .f__law_leaf)) (defBody (stm .f__law_leaf)) (defScope (stm .f__law_leaf)) .none kV13 dc13 pm13 an13 cd13 ct13 | .f__law_deed => PySem.W.fnOf "_law_deed" "_law_deed" (defArgs (stm .f__law_deed)) (defBody (stm .f__law_deed)) (defScope (stm .f__law_deed)) .none kV14 dc14 pm14 an14 cd14 ct14 | .f__law_call => PySem.W.fnOf "_law_call" "_law_call" (defArgs (stm .f__law_call)) (defBody (stm .f__law_call)) (defScope (stm .f__law_call)) .none kV15 dc15 pm15 an15 cd15 ct15 | .f__law_rules => PySem.W.fnOf "_law_rules" "_law_rules" (defArgs (stm .f__law_rules)) (defBody (stm .f__law_rules)) (defScope (stm .f__law_rules)) .none kV16 dc16 pm16 an16 cd16 ct16 | .f__law_marks => PySem.W.fnOf "_law_marks" "_law_marks" (defArgs (stm .f__law_marks)) (defBody (stm .f__law_marks)) (defScope (stm .f__law_marks)) .none kV17 dc17 pm17 an17 cd17 ct17 | .f__law_clash => PySem.W.fnOf "_law_clash" "_law_clash" (defArgs (stm .f__law_clash)) (defBody (stm .f__law_clash)) (defScope (stm .f__law_clash)) .none kV18 dc18 pm18 an18 cd18 ct18 | .f__law_weight => PySem.W.fnOf "_law_weight" "_law_weight" (defArgs (stm .f__law_weight)) (defBody (stm .f__law_weight)) (defScope (stm .f__law_weight)) .none kV19 dc19 pm19 an19 cd19 ct19 | .f__law_light => PySem.W.fnOf "_law_light" "_law_light" (defArgs (stm .f__law_light)) (defBody (stm .f__law_light)) (defScope (stm .f__law_light)) .none kV20 dc20 pm20 an20 cd20 ct20 | .f_law => PySem.W.fnOf "law" "law" (defArgs (stm .f_law)) (defBody (stm .f_law)) (defScope (stm .f_law)) .none kV21 dc21 pm21 an21 cd21 ct21
  let ca : Cid → Addr := fun i => nomatch i
  let ea : Eid → Addr := fun i => nomatch i
  have T : Tx K mg fa fdt ca ea :=
    { fn := fun i => match i with | .f_parts_of => F0 | .f_marks_of => F1 | .f_once => F2 | .f_call_marks => F3 | .f_touches => F4 | .f_is_met => F5 | .f_clash => F6 | .f_may_go => F7 | .f_all_may_go => F8 | .f_clashing => F9 | .f_goes_twice => F10 | .f__law_cell => F11 | .f__law_drawn => F12 | .f__law_leaf => F13 | .f__law_deed => F14 | .f__law_call => F15 | .f__law_rules => F16 | .f__law_marks => F17 | .f__law_clash => F18 | .f__law_weight => F19 | .f__law_light => F20 | .f_law => F21,
      bd := fun i => match i with | .f_parts_of => B0 | .f_marks_of => B1 | .f_once => B2 | .f_call_marks => B3 | .f_touches => B4 | .f_is_met => B5 | .f_clash => B6 | .f_may_go => B7 | .f_all_may_go => B8 | .f_clashing => B9 | .f_goes_twice => B10 | .f__law_cell => B11 | .f__law_drawn => B12 | .f__law_leaf => B13 | .f__law_deed => B14 | .f__law_call => B15 | .f__law_rules => B16 | .f__law_marks => B17 | .f__law_clash => B18 | .f__law_weight => B19 | .f__law_light => B20 | .f_law => B21,
      cl := fun i => (nomatch i),
      xc := fun i => (nomatch i),
      mg_f_parts_of := PySem.W.mg_of X G a_0,
      kp_f_parts_of := k_0,
      mg_f_marks_of := PySem.W.mg_of X G a_1,
      kp_f_marks_of := k_1,
      mg_f_once := PySem.W.mg_of X G a_2,
      kp_f_once := k_2,
      mg_f_call_marks := PySem.W.mg_of X G a_3,
      kp_f_call_marks := k_3,
      mg_f_touches := PySem.W.mg_of X G a_4,
      kp_f_touches := k_4,
      mg_f_is_met := PySem.W.mg_of X G a_5,
      kp_f_is_met := k_5,
      mg_f_clash := PySem.W.mg_of X G a_6,
      kp_f_clash := k_6,
      mg_f_may_go := PySem.W.mg_of X G a_7,
      kp_f_may_go := k_7,
      mg_f_all_may_go := PySem.W.mg_of X G a_8,
      kp_f_all_may_go := k_8,
      mg_f_clashing := PySem.W.mg_of X G a_9,
      kp_f_clashing := k_9,
      mg_f_goes_twice := PySem.W.mg_of X G a_10,
      kp_f_goes_twice := k_10,
      mg_f__law_cell := PySem.W.mg_of X G a_11,
      kp_f__law_cell := k_11,
      mg_f__law_drawn := PySem.W.mg_of X G a_12,
      kp_f__law_drawn := k_12,
      mg_f__law_leaf := PySem.W.mg_of X G a_13,
      kp_f__law_leaf := k_13,
      mg_f__law_deed := PySem.W.mg_of X G a_14,
      kp_f__law_deed := k_14,
      mg_f__law_call := PySem.W.mg_of X G a_15,
      kp_f__law_call := k_15,
      mg_f__law_rules := PySem.W.mg_of X G a_16,
      kp_f__law_rules := k_16,
      mg_f__law_marks := PySem.W.mg_of X G a_17,
      kp_f__law_marks := k_17,
      mg_f__law_clash := PySem.W.mg_of X G a_18,
      kp_f__law_clash := k_18,
      mg_f__law_weight := PySem.W.mg_of X G a_19,
      kp_f__law_weight := k_19,
      mg_f__law_light := PySem.W.mg_of X G a_20,
      kp_f__law_light := k_20,
      mg_f_law := PySem.W.mg_of X G a_21,
      kp_f_law := k_21,
      z_all := PySem.W.mg_none_of X G z_all,
      z_any := PySem.W.mg_none_of X G z_any,
      z_bool := PySem.W.mg_none_of X G z_bool,
      z_dict := PySem.W.mg_none_of X G z_dict,
      z_enumerate := PySem.W.mg_none_of X G z_enumerate,
      z_int := PySem.W.mg_none_of X G z_int,
      z_isinstance := PySem.W.mg_none_of X G z_isinstance,
      z_len := PySem.W.mg_none_of X G z_len,
      z_list := PySem.W.mg_none_of X G z_list,
      z_range := PySem.W.mg_none_of X G z_range,
      z_set := PySem.W.mg_none_of X G z_set,
      z_sorted := PySem.W.mg_none_of X G z_sorted,
      z_sum := PySem.W.mg_none_of X G z_sum,
      z_tuple := PySem.W.mg_none_of X G z_tuple,
      z_zip := PySem.W.mg_none_of X G z_zip }
  exact ⟨fdt .f_law, fun s v => .of_eq rfl, fun base _ _ => ((all_ok (P := l.prog) (w := w) (base := base) T lev).1 .f_law).imp (fun vs H Q E h => sp_law vs H Q E h)⟩
theorem walk {l : PySem.W.OpenLaw} {q : Program} {loose : List Str} {XP : (Str → Option Value) → Heap → Prop} {YP : World → Heap → Prop} {d : DefRec} {K : Params → PySem.W.Frag} (hn : l.most = some 63) (hdf : d.params.defaults = [])
    (hY : ∀ (w : World) (h : Heap), YP w h → (K w.params).In h)
    (F : ∀ (w : World) (mg : Str → Option Value) (fa : Addr) (h : Heap), (K w.params).In h → h.Ns mainGlobals mg → mg d.name = some (.ref fa) →
      ∃ fd : FuncData, (∀ (s : Shared) (u : Value), BindsTo s fd ⟨[u], []⟩ [("_law_script", u)]) ∧ ∀ base : Heap, (K w.params).In base → base.Ns mainGlobals mg → FnOk l.prog w (K w.params) mg base (L2.CX l.prog w) lev fa fd ["_law_script"] (spLaw (K w.params))) :
    PySem.W.WalkO q loose XP YP l.row.toRowW d [] (fun f vs => PySem.call f vs) :=
  L2.walk_of (n := 63) (k := lev) (x := "_law_script") (CX := fun w => L2.CX l.prog w) (sp := fun w => spLaw (K w.params)) hn (by decide) hdf ⟨rfl, by decide, by decide⟩ hY F (fun _ _ a ns hl hO hS => ⟨a, ns, rfl, hS, hO, hl, fun _ => rfl⟩) fun _ _ _ _ _ z => no_exc z
end Lk40
open PySem PySem.W PyProof.Rows in
set_option maxRecDepth 100000 in
set_option maxHeartbeats 0 in
theorem PySem.Challenge.cw_shelfwork_k40_clashes_holds : PySem.Challenge.rw_shelfwork_k40_clashes.Holds := by
  w_on; o_law; k_head; (case hw => w_witness2)
  k_fill
  refine Lk40.walk (l := PySem.Challenge.rw_shelfwork_k40_clashes) rfl rfl (fun w h Y => PySem.W.kIn_of Y) ?F
  case F =>
    intro w mg fa h KX G hmg
    refine' Lk40.all_mk KX G hmg ?a_0 ?l_0 ?c_0 ?k_0 ?a_1 ?l_1 ?c_1 ?k_1 ?a_2 ?l_2 ?c_2 ?k_2 ?a_3 ?l_3 ?c_3 ?k_3 ?a_4 ?l_4 ?c_4 ?k_4 ?a_5 ?l_5 ?c_5 ?k_5 ?a_6 ?l_6 ?c_6 ?k_6 ?a_7 ?l_7 ?c_7 ?k_7 ?a_8 ?l_8 ?c_8 ?k_8 ?a_9 ?l_9 ?c_9 ?k_9 ?a_10 ?l_10 ?c_10 ?k_10 ?a_11 ?l_11 ?c_11 ?k_11 ?a_12 ?l_12 ?c_12 ?k_12 ?a_13 ?l_13 ?c_13 ?k_13 ?a_14 ?l_14 ?c_14 ?k_14 ?a_15 ?l_15 ?c_15 ?k_15 ?a_16 ?l_16 ?c_16 ?k_16 ?a_17 ?l_17 ?c_17 ?k_17 ?a_18 ?l_18 ?c_18 ?k_18 ?a_19 ?l_19 ?c_19 ?k_19 ?a_20 ?l_20 ?c_20 ?k_20 ?a_21 ?l_21 ?c_21 ?k_21 ?z_all ?z_any ?z_bool ?z_dict ?z_enumerate ?z_int ?z_isinstance ?z_len ?z_list ?z_range ?z_set ?z_sorted ?z_sum ?z_tuple ?z_zip
    (case a_0 => k_is)
    (case l_0 => k_is)
    (case c_0 => k_is)
    (case k_0 => k_is)
    (case a_1 => k_is)
    (case l_1 => k_is)
    (case c_1 => k_is)
    (case k_1 => k_is)
    (case a_2 => k_is)
    (case l_2 => k_is)
    (case c_2 => k_is)
    (case k_2 => k_is)
    (case a_3 => k_is)
    (case l_3 => k_is)
    (case c_3 => k_is)
    (case k_3 => k_is)
    (case a_4 => k_is)
    (case l_4 => k_is)
    (case c_4 => k_is)
    (case k_4 => k_is)
    (case a_5 => k_is)
    (case l_5 => k_is)
    (case c_5 => k_is)
    (case k_5 => k_is)
    (case a_6 => k_is)
    (case l_6 => k_is)
    (case c_6 => k_is)
    (case k_6 => k_is)
    (case a_7 => k_is)
    (case l_7 => k_is)
    (case c_7 => k_is)
    (case k_7 => k_is)
    (case a_8 => k_is)
    (case l_8 => k_is)
    (case c_8 => k_is)
    (case k_8 => k_is)
    (case a_9 => k_is)
    (case l_9 => k_is)
    (case c_9 => k_is)
    (case k_9 => k_is)
    (case a_10 => k_is)
    (case l_10 => k_is)
    (case c_10 => k_is)
    (case k_10 => k_is)
    (case a_11 => k_is)
    (case l_11 => k_is)
    (case c_11 => k_is)
    (case k_11 => k_is)
    (case a_12 => k_is)
    (case l_12 => k_is)
    (case c_12 => k_is)
    (case k_12 => k_is)
    (case a_13 => k_is)
    (case l_13 => k_is)
    (case c_13 => k_is)
    (case k_13 => k_is)
    (case a_14 => k_is)
    (case l_14 => k_is)
    (case c_14 => k_is)
    (case k_14 => k_is)
    (case a_15 => k_is)
    (case l_15 => k_is)
    (case c_15 => k_is)
    (case k_15 => k_is)
    (case a_16 => k_is)
    (case l_16 => k_is)
    (case c_16 => k_is)
    (case k_16 => k_is)
    (case a_17 => k_is)
    (case l_17 => k_is)
    (case c_17 => k_is)
    (case k_17 => k_is)
    (case a_18 => k_is)
    (case l_18 => k_is)
    (case c_18 => k_is)
    (case k_18 => k_is)
    (case a_19 => k_is)
    (case l_19 => k_is)
    (case c_19 => k_is)
    (case k_19 => k_is)
    (case a_20 => k_is)
    (case l_20 => k_is)
    (case c_20 => k_is)
    (case k_20 => k_is)
    (case a_21 => k_is)
    (case l_21 => k_is)
    (case c_21 => k_is)
    (case k_21 => k_is)
    (case z_all => k_is)
    (case z_any => k_is)
    (case z_bool => k_is)
    (case z_dict => k_is)
    (case z_enumerate => k_is)
    (case z_int => k_is)
    (case z_isinstance => k_is)
    (case z_len => k_is)
    (case z_list => k_is)
    (case z_range => k_is)
    (case z_set => k_is)
    (case z_sorted => k_is)
    (case z_sum => k_is)
    (case z_tuple => k_is)
    (case z_zip => k_is)


