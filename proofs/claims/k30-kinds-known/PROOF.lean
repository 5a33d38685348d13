import PyProof.Rows.All
import HandS.TupSets
import HandS.Strs
import Wide.All
import OpenK.AllK
import Wide.FinOn
import HandS.ForMost
import HandS.ForExc
import HandS.TupAny
import HandS.TupMul
import HandS.Zip
import HandS.Conv
import HandS.IsInst
import HandS.SetKeys
import HandS.Flow
import HandS.Rev
import HandS.Deep
import HandS.NoneIn
import HandS.More
import HandS.Style
import KE.KDictZip
import KE.GoesZip
import KE.GoesMore
import KE.GoesEnum
import PyProof.DictUpdate
import HandS.Replace
import PyProof.WalksMore
import PyProof.SetRoads
import PyProof.ListStr
import KE.DatumOrd
import HandS.SortKw
import HandS.TryOnly
import KE.GoesComp
import PySem.Challenge.RW_shelfwork_k30_kinds_known
set_option Elab.async false
set_option linter.all false
set_option maxRecDepth 100000
set_option maxHeartbeats 1000000
namespace DL.KS
open PySem PySem.Spec PyProof.Rows L2

structure Kd (P : Program) (w : World) (K : Type) [DecidableEq K] where
  holds : Heap → K → Value → Prop
  code : K → Int
  calm : Around → Prop
  also : SetTable → List Int → Prop
  one : ∀ {h : Heap} {x y : K} {v : Value}, holds h x v → holds h y v → x = y
  stay : ∀ {h h' : Heap} {k : K} {v : Value}, holds h k v → (∀ b o, h.get? b = some o → o.cls = .type "tuple" → h'.get? b = some o) → holds h' k v
variable {P : Program} {w : World} {K : Type} [DecidableEq K]
def Kd.row (κ : Kd P w K) (p : Value × K) : Int × Value := (κ.code p.2, p.1)
structure Holds (κ : Kd P w K) (h : Heap) (a : Addr) (L : List (Value × K)) (o : Obj) (es : Array (Int × Value)) (ep : Nat) (t : SetTable) : Prop where
  at_ : h.get? a = some o
  exact_ : o.ExactSet
  dat : o.data = .set es ep t
  rows : es.toList = L.map κ.row
  alone : (L.map Prod.snd).Nodup
  mem : ∀ p ∈ L, κ.holds h p.2 p.1
  fit : t.fits es.size = true
  up : Ris t.place.toList
  lead : w.params.followText "set-order" = true ∨ t.led = true
  few : L.length < 64
  also : κ.also t (L.map fun p => κ.code p.2)
def SetAt (κ : Kd P w K) (h : Heap) (a : Addr) (L : List (Value × K)) : Prop := ∃ o es ep t, Holds κ h a L o es ep t
def Takes (κ : Kd P w K) : Prop := ∀ {A : Around} {E : Value → Shared → Prop} {s : Shared} {a : Addr} {x : Value} {k : K} {L : List (Value × K)} {Q : Bool → Shared → Prop},
  κ.calm A → κ.holds s.heap k x → SetAt κ s.heap a L → (k ∉ L.map Prod.snd → L.length + 1 < 64) →
  (∀ b h' tk L', s.toks ≤ tk → Heap.SameBut a s.heap h' → SetAt κ h' a L' → (k ∈ L.map Prod.snd → L' = L) → (k ∉ L.map Prod.snd → L'.Perm ((x, k) :: L)) → Q b { s with heap := h', toks := tk }) →
  wpAny (model P w) A (setAdd a x) Q E s

theorem rows_len {κ : Kd P w K} {L : List (Value × K)} {es : Array (Int × Value)} (h : es.toList = L.map κ.row) : es.size = L.length := by
  rw [← Array.length_toList, h, List.length_map]
theorem rows_at {κ : Kd P w K} {L : List (Value × K)} {es : Array (Int × Value)} (h : es.toList = L.map κ.row) {i : Nat} {p : Value × K} (hp : L[i]? = some p) : es[i]? = some (κ.row p) := by
  rw [← Array.getElem?_toList, h, List.getElem?_map, hp]; rfl
theorem stay_set {κ : Kd P w K} {h h' : Heap} {a : Addr} {o : Obj} (ho : h.get? a = some o) (hx : o.ExactSet) (sb : Heap.SameBut a h h') {k : K} {v : Value} (hv : κ.holds h k v) : κ.holds h' k v :=
  κ.stay hv fun b u hu hc => by
    by_cases e : b = a
    · subst e
      obtain rfl : o = u := Option.some.inj (ho.symm.trans hu)
      have z : Value.type "set" = Value.type "tuple" := hx.1.symm.trans hc
      injection z with z
      exact absurd z (by decide)
    · exact (sb.2 b e).trans hu

abbrev TSk (P : Program) (w : World) := IsTupleKey (strKind P w)
theorem texts_shape {ks : List Str} {vs : List Value} (h : ItemsAre (strKind P w) ks vs) : ∀ v ∈ vs, ∃ x u, v = Value.str x u := by
  induction h with
  | nil => simp
  | @cons k v' ks vs h1 _ ih =>
    intro v hv
    rcases List.mem_cons.mp hv with rfl | hv
    · obtain ⟨u, e⟩ := Value.isStrOf_shape h1
      exact ⟨k, u, e⟩
    · exact ih v hv
theorem tsk_stay {h h' : Heap} {k : List Str} {b : Addr} (x : TSk P w h k b) (g : ∀ b o, h.get? b = some o → o.cls = .type "tuple" → h'.get? b = some o) : TSk P w h' k b := by
  obtain ⟨o, its, n, ho, hc, r⟩ := x
  exact ⟨o, its, n, g b o ho hc, hc, r⟩
def kT (P : Program) (w : World) : Kd P w (List Str) where
  holds h k v := ∃ b, v = .ref b ∧ TSk P w h k b
  code := tupleKeyHash (strKind P w)
  calm A := A.units < cLine
  also t hs := TabOk t hs ∧ hs.length * 5 < t.mask * 3
  one := fun ⟨b, e, x⟩ ⟨c, e2, y⟩ => by
    subst e
    injection e2 with e2
    subst e2
    exact x.inj y
  stay := fun ⟨b, e, x⟩ g => ⟨b, e, tsk_stay x g⟩

section
variable {A : Around} {E : Value → Shared → Prop} {s : Shared}
theorem stmt_text (n : Nat) (x : Str) (u : Tok) : ofAClassStatement n (.str x u) = pure false := by cases n <;> rfl
theorem byVal_text (n : Nat) (x : Str) (u : Tok) : hashByValue n (.str x u) = pure false := by cases n <;> rfl
theorem stmt_tup {k : List Str} {b : Addr} {Q : Bool → Shared → Prop} (hk : TSk P w s.heap k b) (h : Q false s) : wpAny (model P w) A (ofAClassStatement 8 (.ref b)) Q E s := by
  have ty := hk.typeIs
  obtain ⟨o, items, n, ho, _, hd, hi⟩ := hk
  unfold ofAClassStatement
  refine wpAny_bind (wpAny_typeOf ty ?_)
  dsimp only
  rw [show (("tuple" : String) == "tuple") = true from by decide]
  simp only [if_true, Bool.not_true, Bool.false_eq_true, if_false]
  try refine wpAny_bind (wpAny_pure ?_)
  try simp only [Bool.not_true, Bool.false_eq_true, if_false]
  show wpAny _ _ (seqItems? (.ref b) >>= _) _ _ s
  refine wpAny_bind (wpAny_seqItems ho hd ?_)
  dsimp only
  refine wpAny_bind ?_
  show wpAny _ _ (forIn items _ _) _ _ s
  rw [← Array.forIn_toList]
  refine wpAny_forIn_list _ (fun r q z => q.1 = none ∧ z = s ∧ ∀ v ∈ r, ∃ x u, v = Value.str x u) _ ?_ ?_ _ _ ⟨rfl, rfl, texts_shape hi⟩
  · rintro v r q z ⟨e, rfl, all⟩
    obtain ⟨x, u, rfl⟩ := all v List.mem_cons_self
    rw [stmt_text]
    refine wpAny_bind (wpAny_pure ?_)
    simp only [Bool.false_eq_true, if_false]
    exact wpAny_pure ⟨rfl, rfl, fun y hy => all y (List.mem_cons_of_mem _ hy)⟩
  · rintro ⟨q1, q2⟩ z ⟨e, rfl, _⟩
    obtain rfl : q1 = none := e
    exact wpAny_pure h
theorem byVal_tup {k : List Str} {b : Addr} {Q : Bool → Shared → Prop} (hk : TSk P w s.heap k b) (h : ∀ c, Q c s) : wpAny (model P w) A (hashByValue 8 (.ref b)) Q E s := by
  have ty := hk.typeIs
  obtain ⟨o, items, n, ho, _, hd, hi⟩ := hk
  unfold hashByValue
  refine wpAny_bind (wpAny_specialOf ty F.slot_tuple_hash.lookup ?_)
  show wpAny _ _ (seqItems? (.ref b) >>= _) _ _ s
  refine wpAny_bind (wpAny_seqItems ho hd ?_)
  refine wpAny_bind ?_
  show wpAny _ _ (forIn items _ _) _ _ s
  rw [← Array.forIn_toList]
  have all := texts_shape hi
  cases hl : items.toList with
  | nil =>
    rw [List.forIn_nil]
    refine wpAny_pure ?_
    exact wpAny_pure (h true)
  | cons v r =>
    obtain ⟨x, u, rfl⟩ := all v (by rw [hl]; exact List.mem_cons_self)
    rw [List.forIn_cons, byVal_text]
    refine wpAny_bind (wpAny_bind (wpAny_pure ?_))
    simp only [Bool.not_false, if_true]
    refine wpAny_pure (wpAny_pure ?_)
    exact wpAny_pure (h false)
theorem unseen {k : List Str} {b : Addr} {Q : Bool → Shared → Prop} (hk : TSk P w s.heap k b) {ys : List Value} (hy : ∀ y ∈ ys, ∃ k', (kT P w).holds s.heap k' y) (h : Q false s) :
    wpAny (model P w) A (searchCouldBeSeen (.ref b) ys) Q E s := by
  unfold searchCouldBeSeen
  refine wpAny_bind ?_
  refine wpAny_forIn_list _ (fun r q z => q.1 = none ∧ z = s ∧ ∀ y ∈ r, ∃ k', (kT P w).holds s.heap k' y) _ ?_ ?_ _ _ ⟨rfl, rfl, hy⟩
  · rintro v r q z ⟨e, rfl, all⟩
    obtain ⟨k', c, rfl, hc⟩ := all v List.mem_cons_self
    have more : ∀ y ∈ r, ∃ k', (kT P w).holds z.heap k' y := fun y m => all y (List.mem_cons_of_mem _ m)
    dsimp only
    by_cases hv : (b == c || (carriedByValue (.ref b) && carriedByValue (.ref c))) = true
    · exact L2.wp_if_pos hv (wpAny_pure ⟨rfl, rfl, more⟩)
    · refine L2.wp_if_neg hv (wpAny_bind (wpAny_eqIsQuiet_tuple hk ?_))
      simp only [Bool.not_true, Bool.false_eq_true, if_false]
      refine wpAny_bind (wpAny_eqIsQuiet_tuple hc ?_)
      simp only [Bool.not_true, Bool.false_eq_true, if_false]
      refine wpAny_bind (stmt_tup hk ?_)
      simp only [Bool.false_eq_true, if_false]
      refine wpAny_bind (stmt_tup hc ?_)
      simp only [Bool.false_eq_true, if_false]
      exact wpAny_pure ⟨rfl, rfl, more⟩
  · rintro ⟨q1, q2⟩ z ⟨e, rfl, _⟩
    obtain rfl : q1 = none := e
    exact wpAny_pure h
end
end DL.KS

set_option Elab.async false
set_option linter.all false
set_option maxRecDepth 100000
set_option maxHeartbeats 1000000
namespace DL.KS
open PySem PySem.Spec PyProof.Rows L2
variable {P : Program} {w : World}
section
variable {A : Around} {E : Value → Shared → Prop} {s : Shared} {a : Addr} {L : List (Value × List Str)} {o : Obj} {es : Array (Int × Value)} {ep : Nat} {t : SetTable}

theorem even_no {m : Nat} (h : MaskOk m) : ¬ (m % 2 == 0) = true := by rw [mask_odd h]; decide
theorem no_dummy (m : Nat) : ∀ (n : Nat) (p : SetTable.Probe), p.dummy = none → (nth m p n).dummy = none
  | 0, _, h => h
  | n + 1, p, h => no_dummy m n (adv m p) (by unfold adv; split <;> exact h)
abbrev stand (m : Nat) (c : Int) (n : Nat) : SetTable.Probe := nth m (runAt m (SetTable.bits c % (m + 1)) (SetTable.bits c)) n
theorem stand_more (m : Nat) (c : Int) (n q : Nat) : nth m (stand m c n) q = stand m c (n + q) := (nth_add m n _ q).symm
theorem stand_way (m : Nat) (c : Int) (n q : Nat) : (nth m (stand m c n) q).j = way m c (n + q) := congrArg SetTable.Probe.j (stand_more m c n q)

theorem hunt (R : Holds (kT P w) s.heap a L o es ep t) {b : Addr} {k : List Str} (hk : TSk P w s.heap k b) (hu : A.units < cLine) {K : Nat} (kf : K < 10 * SetTable.turns t.mask)
    (ke : way t.mask ((kT P w).code k) K ∉ t.place.toList) (kb : ∀ c, c < K → way t.mask ((kT P w).code k) c ∈ t.place.toList) {Q : SetFound → Shared → Prop}
    (yes : k ∈ L.map Prod.snd → Q (.there none) s) (no : k ∉ L.map Prod.snd → Q (.free (way t.mask ((kT P w).code k) K) false) s) :
    ∀ (f c : Nat) (from_ : Option SetTable.Probe), from_.getD (t.probeStart ((kT P w).code k)) = stand t.mask ((kT P w).code k) c → c ≤ K → K - c < f →
      (∀ (i : Nat) (p : Value × List Str), L[i]? = some p → p.2 = k → ∃ c', c ≤ c' ∧ c' < K ∧ t.place.toList[i]? = some (way t.mask ((kT P w).code k) c')) →
      wpAny (model P w) A (setSearchFrom a (.ref b) ((kT P w).code k) true f from_) Q E s := by
  have T := R.also.1
  have entry := fun (i : Nat) (p : Value × List Str) (hp : L[i]? = some p) => rows_at R.rows hp
  have hashes : ∀ (i : Nat) (p : Value × List Str), L[i]? = some p → (fun i => (es[i]?.map (·.1)).getD 0) i = (kT P w).code p.2 := fun i p hp => by
    show (es[i]?.map (·.1)).getD 0 = _
    rw [entry i p hp]; rfl
  have size := rows_len R.rows
  have places : t.place.toList.length = L.length := by
    have z := T.sz
    rw [List.length_map] at z
    rw [Array.length_toList]; exact z
  intro f
  induction f with
  | zero => intro c _ _ _ hf; exact absurd hf (Nat.not_lt_zero _)
  | succ f ih =>
    intro c from_ hst hc hf ahead
    rw [setSearchFrom_succ]
    refine wpAny_bind (wpAny_setState_of R.at_ R.dat R.fit ?_)
    dsimp only
    refine L2.wp_if_neg (even_no T.mok) ?_
    try refine wpAny_bind (wpAny_pure ?_)
    have spec := go_spec t T.ris T.dm (fun i => (es[i]?.map (·.1)).getD 0) ((kT P w).code k) (10 * SetTable.turns t.mask) (K - c) (stand t.mask ((kT P w).code k) c) (no_dummy _ _ _ rfl) (by omega)
      (fun q hq => by rw [stand_way]; exact kb (c + q) (by omega)) (by rw [stand_way, show c + (K - c) = K by omega]; exact ke)
    rcases spec with ⟨q, i, hq, hi, hh, clear, e⟩ | ⟨clear, e⟩
    · -- some entry of that hash
      have e2 : t.probe (fun i => (es[i]?.map (·.1)).getD 0) ((kT P w).code k) (from_.getD (t.probeStart ((kT P w).code k))) = some (.candidate (way t.mask ((kT P w).code k) (c + q)) i (stand t.mask ((kT P w).code k) (c + (q + 1)))) := by
        rw [hst, ← stand_way, ← stand_more]; exact e
      rw [e2]
      dsimp only
      rw [stand_way] at hi
      obtain ⟨p, hp⟩ : ∃ p, L[i]? = some p := ⟨_, List.getElem?_eq_getElem (by have := (List.getElem?_eq_some_iff.mp hi).1; omega)⟩
      have pm : p ∈ L := List.mem_of_getElem? hp
      obtain ⟨c0, pv, pk⟩ := R.mem p pm
      have live := slot_live T.ris hi
      have rest : wpAny (model P w) A (searchRest a (.ref b) ((kT P w).code k) true f es t (way t.mask ((kT P w).code k) (c + q)) i (stand t.mask ((kT P w).code k) (c + (q + 1)))) Q E s := by
        unfold searchRest
        rw [entry i p hp]
        dsimp only [Kd.row]
        rw [pv]
        refine wpAny_bind (wpAny_holding (wpAny_eqBool_tuple hu pk hk ?_))
        refine wpAny_bind (wpAny_setState_of R.at_ R.dat R.fit ?_)
        dsimp only
        by_cases same : p.2 = k
        · exact L2.wp_if_pos (by simp [same]) (wpAny_pure (yes (List.mem_map.mpr ⟨p, pm, same⟩)))
        · refine L2.wp_if_neg (by simp [same]) ?_
          try refine wpAny_bind (wpAny_pure ?_)
          rw [sameMem]
          dsimp only
          simp only [if_true, live, entry i p hp]
          dsimp only [Kd.row]
          rw [pv]
          refine wpAny_bind (wpAny_isSame_ref_self (wpAny_bind (wpAny_pure ?_)))
          simp only [if_true]
          refine L2.wp_if_neg (by simp [same]) (ih (c + (q + 1)) _ rfl (by omega) (by omega) fun i0 p0 h0 k0 => ?_)
          obtain ⟨d, d1, d2, d3⟩ := ahead i0 p0 h0 k0
          refine ⟨d, ?_, d2, d3⟩
          rcases Nat.lt_trichotomy d (c + q) with z | z | z
          · refine absurd ((hashes i0 p0 h0).trans (congrArg (kT P w).code k0)) (clear (d - c) i0 (by omega) ?_)
            rw [stand_way, show c + (d - c) = d by omega]; exact d3
          · exfalso
            rw [z] at d3
            have s2 := slot_live T.ris d3
            rw [live] at s2
            injection s2 with s2
            subst s2
            obtain rfl := Option.some.inj (hp.symm.trans h0)
            exact same k0
          · omega
      by_cases hl : t.led = true
      · refine L2.wp_if_neg (by simp [hl]) ?_
        try refine wpAny_bind (wpAny_pure ?_)
        exact rest
      · refine L2.wp_if_pos (by simp [hl]) (wpAny_bind (unseen hk (fun y hy => ?_) (L2.wp_if_neg (by decide) ?_)))
        · obtain ⟨r, hr, rfl⟩ := List.mem_map.mp hy
          have r1 : r ∈ es ∧ r.1 = (kT P w).code k := by simpa using hr
          have r2 : r ∈ es.toList := by simpa using r1.1
          rw [R.rows] at r2
          obtain ⟨g, hg, rfl⟩ := List.mem_map.mp r2
          exact ⟨g.2, R.mem g hg⟩
        · try refine wpAny_bind (wpAny_pure ?_)
          exact rest
    · have e2 : t.probe (fun i => (es[i]?.map (·.1)).getD 0) ((kT P w).code k) (from_.getD (t.probeStart ((kT P w).code k))) = some (.empty (way t.mask ((kT P w).code k) K) none) := by
        rw [hst, show way t.mask ((kT P w).code k) K = (nth t.mask (stand t.mask ((kT P w).code k) c) (K - c)).j from by rw [stand_way, show c + (K - c) = K by omega]]
        exact e
      rw [e2]
      dsimp only
      refine wpAny_pure (no fun hm => ?_)
      obtain ⟨p0, m0, k0⟩ := List.mem_map.mp hm
      obtain ⟨i0, h0⟩ := List.mem_iff_getElem?.mp m0
      obtain ⟨d, d1, d2, d3⟩ := ahead i0 p0 h0 k0
      refine clear (d - c) i0 (by omega) ?_ ((hashes i0 p0 h0).trans (congrArg (kT P w).code k0))
      rw [stand_way, show c + (d - c) = d by omega]; exact d3
theorem hunt0 (R : Holds (kT P w) s.heap a L o es ep t) {b : Addr} {k : List Str} (hk : TSk P w s.heap k b) (hu : A.units < cLine) {Q : SetFound → Shared → Prop}
    (yes : k ∈ L.map Prod.snd → Q (.there none) s)
    (no : ∀ K, k ∉ L.map Prod.snd → way t.mask ((kT P w).code k) K ∉ t.place.toList → (∀ c, c < K → way t.mask ((kT P w).code k) c ∈ t.place.toList) → Q (.free (way t.mask ((kT P w).code k) K) false) s) :
    wpAny (model P w) A (setSearch a (.ref b) ((kT P w).code k) true) Q E s := by
  obtain ⟨T, room⟩ := R.also
  rw [List.length_map] at room
  obtain ⟨K, kf, ke, kb⟩ := T.first (by rw [List.length_map]; omega) ((kT P w).code k)
  have small : 10 * SetTable.turns t.mask ≤ 1420 := by
    unfold SetTable.turns
    rcases T.mok with e | e | e <;> omega
  unfold setSearch
  refine hunt R hk hu kf ke kb yes (fun n => no K n ke kb) 100000 0 none rfl (Nat.zero_le _) (by omega) fun i p hp e => ?_
  have hi : (L.map fun p => (kT P w).code p.2)[i]? = some ((kT P w).code k) := by rw [List.getElem?_map, hp, ← e]; rfl
  have lt : i < t.place.toList.length := by
    have z := T.sz
    rw [List.length_map] at z
    rw [Array.length_toList, z]
    exact (List.getElem?_eq_some_iff.mp hp).1
  obtain ⟨c, hc, e2⟩ := T.before ke hi (List.getElem?_eq_getElem lt)
  exact ⟨c, Nat.zero_le _, hc, by rw [List.getElem?_eq_getElem lt, e2]⟩
end
end DL.KS

set_option Elab.async false
set_option linter.all false
set_option maxRecDepth 100000
set_option maxHeartbeats 1000000
namespace DL.KS
open PySem PySem.Spec PyProof.Rows L2
variable {P : Program} {w : World} {K : Type} [DecidableEq K]

theorem pick_all {α : Type} (l : List α) : (List.range l.length).filterMap (fun i => l[i]?) = l := by
  have go : ∀ n, n ≤ l.length → (List.range n).filterMap (fun i => l[i]?) = l.take n := by
    intro n
    induction n with
    | zero => intro _; rfl
    | succ n ih =>
      intro h
      have g := List.getElem?_eq_getElem (l := l) (i := n) h
      rw [List.range_succ, List.filterMap_append, ih (Nat.le_of_succ_le h), take_next g, List.filterMap_cons_some g]
      rfl
  rw [go _ (Nat.le_refl _), List.take_length]
theorem rows_order (κ : Kd P w K) {L : List (Value × K)} {es : Array (Int × Value)} {order : Array Nat} (h : es.toList = L.map κ.row) (p : order.toList.Perm (List.range L.length)) :
    ∃ M : List (Value × K), (order.filterMap (es[·]?)).toList = M.map κ.row ∧ M.Perm L ∧ (M.map fun p => κ.code p.2) = order.toList.map fun i => (es.map (·.1)).getD i 0 := by
  have go : ∀ l : List Nat, (∀ i ∈ l, i < L.length) → l.filterMap (fun i => es[i]?) = (l.filterMap fun i => L[i]?).map κ.row ∧
      ((l.filterMap fun i => L[i]?).map fun p => κ.code p.2) = l.map fun i => (es.map (·.1)).getD i 0 := by
    intro l
    induction l with
    | nil => intro _; exact ⟨rfl, rfl⟩
    | cons i l ih =>
      intro hl
      obtain ⟨h1, h2⟩ := ih fun j hj => hl j (List.mem_cons_of_mem _ hj)
      have gi := List.getElem?_eq_getElem (hl i List.mem_cons_self)
      have ge := rows_at h gi
      have gh : (es.map (·.1)).getD i 0 = κ.code (L[i]'(hl i List.mem_cons_self)).2 := by
        rw [Array.getD_eq_getD_getElem?, Array.getElem?_map, ge]; rfl
      refine ⟨?_, ?_⟩
      · rw [List.filterMap_cons_some ge, List.filterMap_cons_some gi, h1, List.map_cons]
      · rw [List.filterMap_cons_some gi, List.map_cons, List.map_cons, h2, gh]
  obtain ⟨h1, h2⟩ := go order.toList fun i hi => List.mem_range.mp (p.mem_iff.mp hi)
  refine ⟨order.toList.filterMap fun i => L[i]?, by simpa using h1, ?_, h2⟩
  have z := p.filterMap fun i => L[i]?
  rwa [pick_all] at z

section
variable {A : Around} {E : Value → Shared → Prop} {s : Shared} {a : Addr} {L : List (Value × List Str)} {o : Obj} {es : Array (Int × Value)} {ep : Nat} {t : SetTable}
theorem widen (ho : s.heap.get? a = some o) (hx : o.ExactSet) (hd : o.data = .set es ep t) (rows : es.toList = L.map (kT P w).row) (fit : t.fits es.size = true) (alone : (L.map Prod.snd).Nodup)
    (mem : ∀ p ∈ L, (kT P w).holds s.heap p.2 p.1) (lead : w.params.followText "set-order" = true ∨ t.led = true) (few : L.length < 64) {n M : Nat}
    (hM : SetTable.sizeAbove n - 1 = M) (hok : MaskOk M) (hs : SetTable.sizeAbove n ≤ 128) (room : L.length * 5 < M * 3) {Q : Unit → Shared → Prop}
    (hQ : ∀ h' L', Heap.SameBut a s.heap h' → SetAt (kT P w) h' a L' → L'.Perm L → Q () { s with heap := h' }) : wpAny (model P w) A (setRelay a n) Q E s := by
  have hn := rows_len rows
  obtain ⟨t', order, e, hp, T, em, el, _, ed⟩ := relaid_ok t (hs := es.map (·.1)) (wanted := n) hM hok (by rw [Array.size_map, hn]; omega)
  rw [Array.size_map, hn] at hp
  obtain ⟨M', r1, r2, r3⟩ := rows_order (kT P w) rows hp
  rw [← r3] at T
  have hz : (order.filterMap (es[·]?)).size = es.size := by rw [rows_len r1, r2.length_eq, hn]
  rw [setRelay_eq]
  refine wpAny_bind (wpAny_setState_of ho hd fit ?_)
  dsimp only
  refine L2.wp_if_neg (by rw [sizeLine_eq]; omega) ?_
  try refine wpAny_bind (wpAny_pure ?_)
  rw [e]
  dsimp only
  refine wpAny_bind (L2.wp_if_neg (by rw [hz]; simp) ?_)
  try refine wpAny_bind (wpAny_pure ?_)
  refine wpAny_pure ?_
  dsimp only
  have sb : Heap.SameBut a s.heap (s.heap.update a (Obj.putSet (order.filterMap (es[·]?)) t')) := Heap.SameBut.update ..
  refine wpAny_storeSet_of ho hd (hQ _ M' sb ⟨_, _, _, t', L2.store_at ho hd, ⟨hx.1, hx.2.1, hx.2.2⟩, rfl, r1, (r2.map Prod.snd).nodup_iff.mpr alone, fun p m => stay_set ho hx sb (mem p (r2.mem_iff.mp m)), ?_, T.ris, by rw [el]; exact lead, by rw [r2.length_eq]; exact few, T, ?_⟩ r2) (by rw [hz, hn, sizeLine_eq]; omega)
  · have z := T.sz
    rw [List.length_map, r2.length_eq] at z
    unfold SetTable.fits SetTable.fill
    rw [ed, Bool.and_eq_true, beq_iff_eq, decide_eq_true_eq, hz, hn, em]
    exact ⟨z, by show t'.place.size + 0 ≤ M; omega⟩
  · rw [List.length_map, r2.length_eq, em]; exact room

theorem put_tup {b : Addr} {k : List Str} (R : Holds (kT P w) s.heap a L o es ep t) (hk : TSk P w s.heap k b) (hu : A.units < cLine) (few : k ∉ L.map Prod.snd → L.length + 1 < 64) {Q : Bool → Shared → Prop}
    (hQ : ∀ c h' L', Heap.SameBut a s.heap h' → SetAt (kT P w) h' a L' → (k ∈ L.map Prod.snd → L' = L) → (k ∉ L.map Prod.snd → L'.Perm ((.ref b, k) :: L)) → Q c { s with heap := h' }) :
    wpAny (model P w) A (setAddHashed a (.ref b) ((kT P w).code k)) Q E s := by
  obtain ⟨T, room⟩ := R.also
  rw [List.length_map] at room
  have hn := rows_len R.rows
  unfold setAddHashed
  rw [show (100000 : Nat) = 99999 + 1 from rfl, setAddHashedIn_succ]
  refine wpAny_holding (wpAny_bind (wpAny_setState_of R.at_ R.dat R.fit ?_))
  dsimp only
  refine L2.wp_if_neg (by simp [byScan, Value.scannable]) ?_
  try refine wpAny_bind (wpAny_pure ?_)
  refine wpAny_bind (hunt0 R hk hu (fun y => ?_) fun C n ce cb => ?_)
  · dsimp only
    exact wpAny_pure (hQ false s.heap L (Heap.SameBut.refl a s.heap) ⟨o, es, ep, t, R⟩ (fun _ => rfl) fun z => absurd y z)
  · dsimp only
    refine wpAny_bind (wpAny_setState_of R.at_ R.dat R.fit ?_)
    dsimp only
    obtain ⟨p1, p2, p3, p4, p5, -, -, -, p9⟩ := T.put ce cb
    generalize t.put (way t.mask ((kT P w).code k) C) = pt at p1 p3 p4 p5 p9 ⊢
    obtain ⟨t1, i⟩ := pt
    dsimp only at p1 p3 p4 p5 p9 ⊢
    subst p1
    rw [List.length_map] at p2 p9
    generalize SetTable.below t.place (way t.mask ((kT P w).code k) C) = i at p2 p3 ⊢
    have rows1 : (SetTable.insertAt es i ((kT P w).code k, Value.ref b)).toList = (L.take i ++ (Value.ref b, k) :: L.drop i).map (kT P w).row := by
      rw [SetTable.toList_insertAt, R.rows, List.map_append, List.map_cons, List.map_take, List.map_drop]; rfl
    have pm : (L.take i ++ (Value.ref b, k) :: L.drop i).Perm ((Value.ref b, k) :: L) := put_perm L i _
    have codes : (L.take i ++ (Value.ref b, k) :: L.drop i).map (fun p => (kT P w).code p.2) = (L.map fun p => (kT P w).code p.2).take i ++ (kT P w).code k :: (L.map fun p => (kT P w).code p.2).drop i := by
      rw [List.map_append, List.map_cons, List.map_take, List.map_drop]
    rw [← codes] at p3
    have alone1 : ((L.take i ++ (Value.ref b, k) :: L.drop i).map Prod.snd).Nodup := (pm.map Prod.snd).nodup_iff.mpr (by rw [List.map_cons]; exact List.nodup_cons.mpr ⟨n, R.alone⟩)
    have len1 := pm.length_eq
    rw [List.length_cons] at len1
    generalize SetTable.insertAt es i ((kT P w).code k, Value.ref b) = es1 at rows1 ⊢
    generalize L.take i ++ (Value.ref b, k) :: L.drop i = L1 at rows1 pm p3 alone1 len1
    have hn1 := rows_len rows1
    have few1 : L1.length < 64 := by rw [len1]; exact few n
    have lead1 : w.params.followText "set-order" = true ∨ t1.led = true := by rw [p5]; exact R.lead
    have fits1 : t1.fits es1.size = true := by
      have z := p3.sz
      rw [List.length_map] at z
      unfold SetTable.fits SetTable.fill
      rw [p3.dm, Bool.and_eq_true, beq_iff_eq, decide_eq_true_eq, hn1, p4]
      exact ⟨z, by show t1.place.size + 0 ≤ t.mask; omega⟩
    -- what follows, the table's mark «plain» being either
    have tail : ∀ (t2 : SetTable), t2.place = t1.place → t2.dummies = t1.dummies → t2.mask = t1.mask → t2.led = t1.led → TabOk t2 (L1.map fun p => (kT P w).code p.2) → t2.fits es1.size = true → wpAny (model P w) A (do
        storeSet a es1 t2
        if (!false && t2.tooFull) = true then setRelay a (SetTable.grown (es.size + 1))
        return true) Q E s := by
      intro t2 e1 e2 e3 e4 T2 fits2
      have sb : Heap.SameBut a s.heap (s.heap.update a (Obj.putSet es1 t2)) := Heap.SameBut.update ..
      have mem1 : ∀ p ∈ L1, (kT P w).holds (s.heap.update a (Obj.putSet es1 t2)) p.2 p.1 := fun p m => stay_set R.at_ R.exact_ sb (by
        rcases List.mem_cons.mp (pm.mem_iff.mp m) with z | z
        · rw [z]; exact ⟨b, rfl, hk⟩
        · exact R.mem p z)
      have at1 := L2.store_at (es' := es1) (t' := t2) R.at_ R.dat
      refine wpAny_bind (wpAny_storeSet_of R.at_ R.dat ?_ (by rw [hn1, sizeLine_eq]; omega))
      generalize s.heap.update a (Obj.putSet es1 t2) = h1 at sb mem1 at1 ⊢
      have fill2 : t2.fill = t1.fill := by unfold SetTable.fill; rw [e1, e2]
      by_cases full : t2.tooFull = true
      · have full2 := full
        unfold SetTable.tooFull at full2
        rw [decide_eq_true_eq, fill2, p9, e3, p4] at full2
        first
          | (refine wpAny_bind ?_; refine L2.wp_if_pos (by simp [full]) ?_)
          | (refine L2.wp_if_pos (by simp [full]) ?_; refine wpAny_bind ?_)
        rw [hn]
        have go : ∀ M, SetTable.sizeAbove (SetTable.grown (L.length + 1)) - 1 = M → MaskOk M → SetTable.sizeAbove (SetTable.grown (L.length + 1)) ≤ 128 → (L.length + 1) * 5 < M * 3 →
            wpAny (model P w) A (setRelay a (SetTable.grown (L.length + 1))) (fun _ s' => wpAny (model P w) A (pure true) Q E s') E { s with heap := h1 } := fun M g1 g2 g3 g4 =>
          widen (s := { s with heap := h1 }) at1 ⟨R.exact_.1, R.exact_.2.1, R.exact_.2.2⟩ rfl rows1 fits2 alone1 mem1 (by rw [e4]; exact lead1) few1 g1 g2 g3 (by rw [len1]; exact g4) fun h2 L2' sb2 S2 pm2 =>
            wpAny_pure (hQ true h2 L2' (sb.trans sb2) S2 (fun z => absurd z n) fun _ => pm2.trans pm)
        rcases T.mok with m | m | m
        · rw [m] at full2 room
          have z : L.length = 4 := by omega
          exact go 31 (by rw [z, size_20]) (.inr (.inl rfl)) (by rw [z, size_20]; decide) (by omega)
        · rw [m] at full2 room
          have z : L.length = 18 := by omega
          exact go 127 (by rw [z, size_76]) (.inr (.inr rfl)) (by rw [z, size_76]; decide) (by omega)
        · rw [m] at full2
          have := few n
          omega
      · have less := full
        unfold SetTable.tooFull at less
        rw [decide_eq_true_eq, fill2, p9, e3, p4] at less
        first
          | refine L2.wp_if_neg (by simp [full]) ?_
          | (refine wpAny_bind ?_; refine L2.wp_if_neg (by simp [full]) ?_; refine wpAny_pure ?_)
        exact wpAny_pure (hQ true h1 L1 sb ⟨_, es1, ep + 1, t2, at1, ⟨R.exact_.1, R.exact_.2.1, R.exact_.2.2⟩, rfl, rows1, alone1, mem1, fits2, T2.ris, by rw [e4]; exact lead1, few1, T2, by rw [List.length_map, len1, e3, p4]; omega⟩ (fun z => absurd z n) fun _ => pm)
    by_cases pl : t1.plain = true
    · first
        | (refine wpAny_bind ?_; refine L2.wp_if_pos pl ?_; refine byVal_tup hk fun c => ?_)
        | refine L2.wp_if_pos pl (wpAny_bind (byVal_tup hk fun c => ?_))
      cases c
      · exact tail _ rfl rfl rfl rfl ⟨p3.ris, p3.dm, p3.sz, p3.mok, p3.bd, p3.reach⟩ (SetTable.fits_plain_off fits1)
      · exact tail t1 rfl rfl rfl rfl p3 fits1
    · first
        | (refine wpAny_bind ?_; refine L2.wp_if_neg pl ?_; refine wpAny_pure ?_)
        | (refine L2.wp_if_neg pl ?_; refine wpAny_bind (wpAny_pure ?_))
      exact tail t1 rfl rfl rfl rfl p3 fits1
theorem takes_tups : Takes (kT P w) := by
  intro A E s a x k L Q hu hv ⟨o, es, ep, t, R⟩ few hQ
  obtain ⟨b, rfl, hk⟩ := hv
  unfold setAdd
  refine wpAny_holding (wpAny_bind (wpAny_pyHash_tuple hu hk ?_))
  exact put_tup (s := { s with toks := s.toks + (k.length + 1) }) R hk hu few fun c h' L' sb S1 c1 c2 => hQ c h' _ L' (Nat.le_add_right _ _) sb S1 c1 c2
end
end DL.KS

set_option Elab.async false
set_option linter.all false
set_option maxRecDepth 100000
set_option maxHeartbeats 1000000
namespace DL.KS
open PySem PySem.Spec PyProof.Rows L2
variable {P : Program} {w : World} {K : Type} [DecidableEq K] {κ : Kd P w K}

structure Has (κs : List (Value × K)) (i : Nat) (L : List (Value × K)) : Prop where
  from_ : ∀ p ∈ L, p ∈ κs.take i
  all : ∀ p ∈ κs.take i, p.2 ∈ L.map Prod.snd
theorem take_one_more {α : Type} {l : List α} {i : Nat} {x : α} (h : l[i]? = some x) {y : α} : y ∈ l.take (i + 1) ↔ y ∈ l.take i ∨ y = x := by
  rw [take_next h, List.mem_append, List.mem_singleton]
theorem Has.next {κs L L' : List (Value × K)} {i : Nat} {x : Value × K} (g : Has κs i L) (h : κs[i]? = some x) (c1 : x.2 ∈ L.map Prod.snd → L' = L) (c2 : x.2 ∉ L.map Prod.snd → L'.Perm (x :: L)) : Has κs (i + 1) L' := by
  by_cases c : x.2 ∈ L.map Prod.snd
  · rw [c1 c]
    refine ⟨fun p hp => (take_one_more h).mpr (.inl (g.from_ p hp)), fun p hp => ?_⟩
    rcases (take_one_more h).mp hp with z | rfl
    · exact g.all p z
    · exact c
  · have pm := c2 c
    refine ⟨fun p hp => (take_one_more h).mpr ?_, fun p hp => (pm.map Prod.snd).mem_iff.mpr ?_⟩
    · rcases List.mem_cons.mp (pm.mem_iff.mp hp) with z | z
      · exact .inr z
      · exact .inl (g.from_ p z)
    · rw [List.map_cons]
      rcases (take_one_more h).mp hp with z | rfl
      · exact List.mem_cons_of_mem _ (g.all p z)
      · exact List.mem_cons_self
theorem Holds.moves {h h' : Heap} {a : Addr} {L : List (Value × K)} (g : SetAt κ h a L) (ha : ∀ o, h.get? a = some o → h'.get? a = some o) (hm : ∀ p ∈ L, κ.holds h' p.2 p.1) : SetAt κ h' a L := by
  obtain ⟨o, es, ep, t, R⟩ := g
  exact ⟨o, es, ep, t, ha o R.at_, R.exact_, R.dat, R.rows, R.alone, hm, R.fit, R.up, R.lead, R.few, R.also⟩
theorem stay_all {h h' : Heap} {k : K} {v : Value} (x : κ.holds h k v) (g : ∀ b o, h.get? b = some o → h'.get? b = some o) : κ.holds h' k v := κ.stay x fun b o e _ => g b o e

theorem pour {I : Addr} {fp wr : List Addr} {G : Array GenState → Array GenState → Prop} {n : Nat} {Pv : Nat → Value → Prop} {St : Nat → Shared → Prop} {R : Result → Shared → Prop} {A : Around}
    (W : WalksS P w A.in1 I fp wr G n Pv St) (tk : Takes κ) (S : Addr) (hSf : S ∉ fp) (κs : List (Value × K)) (hn : n = κs.length) (few : ∀ M : List K, M.Nodup → (∀ k ∈ M, k ∈ κs.map Prod.snd) → M.length < 64)
    (hval : ∀ i v, Pv i v → ∃ p, κs[i]? = some p ∧ v = p.1) (h0 : Heap) (hk : ∀ p ∈ κs, κ.holds h0 p.2 p.1) (hS0 : h0.get? S = none) (hw0 : ∀ b ∈ wr, h0.get? b = none) (hc : κ.calm A.in1) :
    ∀ (d i : Nat) (s : Shared), n - i = d → i ≤ n → St i s → (∀ b o, h0.get? b = some o → s.heap.get? b = some o) → (∃ L, SetAt κ s.heap S L ∧ Has κs i L) →
      (∀ s' L, Moved (S :: wr) G s s' → SetAt κ s'.heap S L → Has κs n L → (∀ b o, h0.get? b = some o → s'.heap.get? b = some o) → R (.ok (.ret .none)) s') →
      codeAny (model P w) A (.builtin "set.update.loop" ⟨[.ref S, .ref I], []⟩) R s := by
  have apart : S ∉ wr := fun z => hSf (W.sub _ z)
  have wider : ∀ b ∈ wr, b ∈ S :: wr := fun b m => List.mem_cons_of_mem _ m
  have old : ∀ {s s' : Shared}, Moved wr G s s' → (∀ b o, h0.get? b = some o → s.heap.get? b = some o) → ∀ b o, h0.get? b = some o → s'.heap.get? b = some o := fun hm g b o e =>
    hm.heap b o (fun m => by rw [hw0 b m] at e; cases e) (g b o e)
  intro d
  induction d with
  | zero =>
    intro i s hd hi hst g0 ⟨L, hS, g⟩ hR
    obtain rfl : i = n := by omega
    refine codeAny_builtin F.entry_set_update_loop ?_
    rw [Around.under_plainId F.plain_set_update_loop _]
    show wpAny _ A.in1 (pyNext (.ref I) >>= _) _ _ s
    refine wpAny_bind (W.done s _ _ hst fun s' hm => ?_)
    show wpAny _ A.in1 (ret Value.none) _ _ s'
    have g1 := old hm g0
    exact wpAny_pure (hR s' L (hm.mono wider) (Holds.moves hS (fun o e => hm.heap S o apart e) fun p m => stay_all (hk p (List.mem_of_mem_take (g.from_ p m))) g1) g g1)
  | succ d ih =>
    intro i s hd hi hst g0 ⟨L, hS, g⟩ hR
    have lt : i < n := by omega
    refine codeAny_builtin F.entry_set_update_loop ?_
    rw [Around.under_plainId F.plain_set_update_loop _]
    show wpAny _ A.in1 (pyNext (.ref I) >>= _) _ _ s
    refine wpAny_bind (W.item i s _ _ lt hst fun v s' hP hst' hm => ?_)
    obtain ⟨p, hp, rfl⟩ := hval i v hP
    have g1 := old hm g0
    have hS1 : SetAt κ s'.heap S L := Holds.moves hS (fun o e => hm.heap S o apart e) fun q m => stay_all (hk q (List.mem_of_mem_take (g.from_ q m))) g1
    show wpAny _ A.in1 (holding [p.1] (setAdd S p.1) >>= _) _ _ s'
    refine wpAny_bind (wpAny_holding (tk hc (stay_all (hk p (List.mem_of_getElem? hp)) g1) hS1 (fun nk => ?_) fun c h' t' L' ht sb hS2 c1 c2 => ?_))
    · obtain ⟨_, _, _, _, R1⟩ := hS1
      have z := few (p.2 :: L.map Prod.snd) (List.nodup_cons.mpr ⟨nk, R1.alone⟩) fun k m => by
        rcases List.mem_cons.mp m with rfl | m
        · exact List.mem_map_of_mem (List.mem_of_getElem? hp)
        · obtain ⟨q, mq, rfl⟩ := List.mem_map.mp m
          exact List.mem_map_of_mem (List.mem_of_mem_take (g.from_ q mq))
      rw [List.length_cons, List.length_map] at z
      exact z
    have g2 : ∀ b o, h0.get? b = some o → h'.get? b = some o := fun b o e => (sb.2 b (fun z => by rw [z, hS0] at e; cases e)).trans (g1 b o e)
    refine wpAny_pure ⟨plainId_quiet F.plain_set_update_loop _, ih (i + 1) _ (by omega) lt (W.frame _ s' _ _ hst' ht fun b m o e => ?_) g2 ⟨L', hS2, g.next hp c1 c2⟩ fun s2 L2 hm2 hS3 g3 g4 => ?_⟩
    · rw [sb.2 b fun z : b = S => hSf (by rw [← z]; exact m)]; exact e
    · refine hR s2 L2 (Moved.trans W.gtrans ((hm.mono wider).then_heap ht fun b o m e => ?_) hm2) hS3 g3 g4
      rw [sb.2 b fun z : b = S => m (by rw [z]; exact List.mem_cons_self)]; exact e

abbrev emptySet (w : World) : Obj := { cls := .type "set", dict := none, data := .set #[] 0 (.fresh 0 0 (!w.params.followText "set-order")) }
theorem lead_fresh (w : World) : w.params.followText "set-order" = true ∨ (SetTable.fresh 0 0 (!w.params.followText "set-order")).led = true := by
  show _ ∨ (!w.params.followText "set-order") = true
  cases w.params.followText "set-order"
  · exact .inr rfl
  · exact .inl rfl
theorem empty_at (h0 : κ.also (.fresh 0 0 (!w.params.followText "set-order")) []) {h : Heap} {a : Addr} (ho : h.get? a = some (emptySet w)) : SetAt κ h a [] :=
  ⟨_, #[], 0, _, ho, ⟨rfl, rfl, rfl⟩, rfl, rfl, List.nodup_nil, (fun p m => nomatch m), by show SetTable.fits _ 0 = true; rfl, List.Pairwise.nil, lead_fresh w, (by show 0 < 64; decide), h0⟩
theorem also_tups (P : Program) (w : World) : (kT P w).also (.fresh 0 0 (!w.params.followText "set-order")) [] :=
  ⟨⟨List.Pairwise.nil, rfl, rfl, .inl rfl, (fun x hx => nomatch hx), fun i h j hi => by simp at hi⟩, by show 0 * 5 < 7 * 3; decide⟩

section
variable {A : Around} {E : Value → Shared → Prop} {s : Shared}
set_option maxHeartbeats 3200000 in
theorem make_set (tk : Takes κ) (h0 : κ.also (.fresh 0 0 (!w.params.followText "set-order")) []) {l : Addr} {items : Array Value} (κs : List (Value × K)) {Q : Value → Shared → Prop} (hh : A.handled = none) (hl : s.heap.IsList l items)
    (hit : items.toList = κs.map Prod.fst) (hk : ∀ p ∈ κs, κ.holds s.heap p.2 p.1) (few : ∀ M : List K, M.Nodup → (∀ k ∈ M, k ∈ κs.map Prod.snd) → M.length < 64) (hc : κ.calm A.in1.in1.in1)
    (h : ∀ (h' : Heap) (t' : Nat) L, SetAt κ h' s.heap.objs.size L → Has κs κs.length L → (∀ b o, s.heap.get? b = some o → h'.get? b = some o) → Q (.ref s.heap.objs.size) { s with heap := h', toks := t' }) :
    wpAny (model P w) A (call (.type "set") [.ref l]) Q E s := by
  have size : items.size = κs.length := by rw [← Array.length_toList, hit, List.length_map]
  obtain ⟨c, tl, hmro⟩ := F.called_set.mro
  have f1 := F.called_set.made
  have f2 := F.called_set.sub
  have f3 := F.called_set.notType
  have f4 := F.called_set.canCreate
  have f5 := F.typeCall_set_1 (.ref l)
  refine wpAny_call (codeAny_of_tree ?_)
  show wpAny _ _ (callAny (.type "set") _) _ _ _
  refine wpAny_pure ⟨Code.quiet_builtin _ (by decide +kernel), codeAny_builtin F.entry_type_call ?_⟩
  rw [Around.under_plain (weight_type_call_type "set" [.ref l] []) rfl]
  repeat (any_goals (first | assumption | wp_step))
  refine codeAny_mono (code_set_led1 (.ref l) (E := E) (Q₁ := fun x z => x = .ref s.heap.objs.size ∧ z = { s with heap := s.heap.push (emptySet w) }) ⟨rfl, rfl⟩) fun r z hr => ?_
  rcases r with e | fl
  · exact hr
  cases fl with
  | ret x =>
    obtain ⟨rfl, rfl⟩ := hr
    have hS : (s.heap.push (emptySet w)).get? s.heap.objs.size = some (emptySet w) := Heap.get?_push_size _ rfl
    have ty : Shared.TypeIs { s with heap := s.heap.push (emptySet w) } (.ref s.heap.objs.size) "set" := ⟨_, hS, rfl⟩
    have f6 := F.called_set.init.lookup
    have f7 := F.called_set.init.bind (.ref s.heap.objs.size)
    repeat (any_goals (first | assumption | wp_step))
    refine codeAny_mono (codeAny_call_builtin (R := wants (fun r z => r = .none ∧ ∃ h' t' L, z = { s with heap := h', toks := t' } ∧ SetAt κ h' s.heap.objs.size L ∧ Has κs κs.length L ∧ (∀ b o, s.heap.get? b = some o → h'.get? b = some o)) E)
      F.called_set.init.plain F.entry_set_init (check_set_init_1 ty ?_)) fun r2 z2 hr2 => ?_
    · obtain ⟨⟨ocls, odict, odata, oslots⟩, hol, hcl, nl, hdl⟩ := hl
      obtain rfl : ocls = .type "list" := hcl
      obtain rfl : odata = .seq items nl := hdl
      have lists : (s.heap.push (emptySet w)).get? l = some { cls := .type "list", dict := odict, data := .seq items nl, slots := oslots } := Heap.get?_push_of_some _ hol
      have f8 := F.sub_list_set
      have f9 := F.sub_list_frozenset
      have f10 : (Value.type "list" == Value.type "dict") = false := by decide
      have isl : (s.heap.push (emptySet w)).IsList l items := ⟨_, lists, rfl, nl, rfl⟩
      have below : l < s.heap.objs.size := Heap.lt_size hol
      unfold Builtin.«set.__init__» noKeywords Builtin.Frozenset.updateFrom
      generalize hPI : pyIter = PI
      wp_walk
      subst hPI
      refine wpAny_pyIter_list isl (wpAny_bind (wpAny_runValue ?_))
      have free : ∀ b, s.heap.objs.size ≤ b → s.heap.get? b = none := fun b hb => by
        cases q : s.heap.get? b with
        | none => rfl
        | some o => exact absurd (Nat.lt_of_lt_of_le (Heap.lt_size q) hb) (Nat.lt_irrefl _)
      have hh3 : A.in1.in1.in1.handled = none := by simp [hh]
      have ap : l ≠ (s.heap.push (emptySet w)).objs.size := by rw [Heap.size_push]; exact Nat.ne_of_lt (Nat.lt_succ_of_lt below)
      refine pour ((Walks.list hh3 _ l ap items).toS) tk s.heap.objs.size (by
          rw [Heap.size_push]
          simp only [List.mem_cons, List.mem_singleton, List.not_mem_nil, or_false, not_or]
          exact ⟨Nat.ne_of_lt (Nat.lt_succ_self _), Nat.ne_of_gt below⟩) κs size few (fun i v hv => by
          have q : items.toList[i]? = some v := by rw [Array.getElem?_toList]; exact hv
          rw [hit, List.getElem?_map] at q
          obtain ⟨p, hp, e⟩ := Option.map_eq_some_iff.mp q
          exact ⟨p, hp, e.symm⟩) s.heap hk (free _ (Nat.le_refl _)) (fun b m => free b (by rw [List.mem_singleton.mp m, Heap.size_push]; exact Nat.le_succ _)) hc (items.size - 0) 0 _ (by omega) (Nat.zero_le _)
        ⟨⟨_, Heap.get?_push_size _ rfl, rfl, rfl⟩, isl.push _⟩ (fun b o e => Heap.get?_push_of_some _ (Heap.get?_push_of_some _ e))
        ⟨[], empty_at h0 (Heap.get?_push_of_some _ hS), ⟨(fun p m => nomatch m), fun p m => by simp at m⟩⟩ fun z' L hm hS' g' hkp => ?_
      obtain ⟨h', g2, d', t', os'⟩ := z'
      obtain rfl : g2 = s.gens := hm.gens
      obtain rfl : d' = s.drawn := hm.drawn
      obtain rfl : os' = s.os := hm.os
      show wpAny _ _ _ _ _ _
      refine wpAny_pure ?_
      show wpAny _ _ (ret Value.none) _ _ _
      rw [size] at g'
      exact wpAny_pure ⟨rfl, h', t', L, rfl, hS', g', hkp⟩
    · rcases r2 with e | fl2
      · exact hr2
      cases fl2 with
      | ret r =>
        obtain ⟨rfl, h', t', L, rfl, hS', g', hk'⟩ := hr2
        repeat (any_goals (first | assumption | wp_step))
        exact h _ _ _ hS' g' hk'
      | _ => exact hr2.elim
  | _ => exact hr.elim
end
end DL.KS

set_option Elab.async false
set_option linter.all false
set_option maxRecDepth 100000
set_option maxHeartbeats 1000000
namespace DL.KS
open PySem PySem.Spec PyProof.Rows L2
variable {P : Program} {w : World} {K : Type} [DecidableEq K] {κ : Kd P w K}

structure Ord (lt : K → K → Bool) : Prop where
  irr : ∀ a, lt a a = false
  trans : ∀ a b c, lt a b = true → lt b c = true → lt a c = true
  tri : ∀ a b, lt a b = true ∨ a = b ∨ lt b a = true
theorem Ord.asym {lt : K → K → Bool} (O : Ord lt) {a b : K} (h : lt a b = true) : lt b a = false := by
  cases q : lt b a with
  | false => rfl
  | true => have z := O.trans _ _ _ h q; rw [O.irr] at z; cases z
theorem count_le {α : Type} {p q : α → Bool} : ∀ (l : List α), (∀ x ∈ l, p x = true → q x = true) → l.countP p ≤ l.countP q
  | [], _ => Nat.le_refl _
  | x :: l, h => by
    have ih := count_le l fun y m => h y (List.mem_cons_of_mem _ m)
    rw [List.countP_cons, List.countP_cons]
    by_cases c : p x = true
    · rw [if_pos c, if_pos (h x List.mem_cons_self c)]; omega
    · rw [if_neg c]; split <;> omega
theorem count_lt {α : Type} {p q : α → Bool} : ∀ (l : List α), (∀ x ∈ l, p x = true → q x = true) → (∃ x ∈ l, p x = false ∧ q x = true) → l.countP p < l.countP q
  | [], _, ⟨x, m, _⟩ => nomatch m
  | x :: l, h, ⟨y, m, c1, c2⟩ => by
    have hl : ∀ y ∈ l, p y = true → q y = true := fun y m => h y (List.mem_cons_of_mem _ m)
    rw [List.countP_cons, List.countP_cons]
    rcases List.mem_cons.mp m with rfl | m
    · have := count_le l hl
      rw [c1, c2]
      simp only [Bool.false_eq_true, if_false, if_true]
      omega
    · have ih := count_lt l hl ⟨y, m, c1, c2⟩
      by_cases c : p x = true
      · rw [if_pos c, if_pos (h x List.mem_cons_self c)]; omega
      · rw [if_neg c]; split <;> omega
open Classical in
noncomputable def rank (κ : Kd P w K) (lt : K → K → Bool) (h : Heap) (vs : List Value) (v : Value) : Int :=
  ((vs.countP fun u => decide (∃ k j, κ.holds h k u ∧ κ.holds h j v ∧ lt k j = true) : Nat) : Int)
theorem rank_lt {lt : K → K → Bool} (O : Ord lt) {h : Heap} {vs : List Value} (all : ∀ v ∈ vs, ∃ k, κ.holds h k v) {u v : Value} (hu : u ∈ vs) {k j : K} (hk : κ.holds h k u) (hj : κ.holds h j v) :
    decide (rank κ lt h vs u < rank κ lt h vs v) = lt k j := by
  classical
  have out : ∀ {x : Value} {i : K}, κ.holds h i x → ∀ y, decide (∃ k j, κ.holds h k y ∧ κ.holds h j x ∧ lt k j = true) = true ↔ ∃ k, κ.holds h k y ∧ lt k i = true := fun hi y => by
    rw [decide_eq_true_eq]
    exact ⟨fun ⟨k, j, a, b, c⟩ => ⟨k, a, by rw [← κ.one b hi]; exact c⟩, fun ⟨k, a, c⟩ => ⟨k, _, a, hi, c⟩⟩
  unfold rank
  cases q : lt k j with
  | true =>
    rw [decide_eq_true_eq, Int.ofNat_lt]
    refine count_lt vs (fun x _ hx => ?_) ⟨u, hu, ?_, ?_⟩
    · obtain ⟨i, h1, h2⟩ := (out hk x).mp hx
      exact (out hj x).mpr ⟨i, h1, O.trans _ _ _ h2 q⟩
    · cases z : decide (∃ a b, κ.holds h a u ∧ κ.holds h b u ∧ lt a b = true) with
      | false => rfl
      | true =>
        obtain ⟨i, h1, h2⟩ := (out hk u).mp z
        rw [κ.one h1 hk, O.irr] at h2
        cases h2
    · exact (out hj u).mpr ⟨k, hk, q⟩
  | false =>
    rw [decide_eq_false_iff_not, Int.ofNat_lt, Nat.not_lt]
    refine count_le vs fun x _ hx => ?_
    obtain ⟨i, h1, h2⟩ := (out hj x).mp hx
    refine (out hk x).mpr ⟨i, h1, ?_⟩
    rcases O.tri j k with z | z | z
    · exact O.trans _ _ _ h2 z
    · rw [← z]; exact h2
    · rw [q] at z; cases z

def Cmps (κ : Kd P w K) (lt : K → K → Bool) (good : K → Prop) : Prop := ∀ {A : Around} {E : Value → Shared → Prop} {s : Shared} {vs : List Value} {Q : SortKind → Shared → Prop}, 2 ≤ vs.length → (∀ v ∈ vs, ∃ k, κ.holds s.heap k v ∧ good k) →
  (∀ sk, (∀ u ∈ vs, ∀ v ∈ vs, ∀ k j, κ.holds s.heap k u → κ.holds s.heap j v → ∀ (C : Bool → Shared → Prop) (E' : Value → Shared → Prop), C (lt k j) s → wpAny (model P w) A (keyLt' sk u v) C E' s) → Q sk s) →
  wpAny (model P w) A (keyKind' vs.toArray) Q E s

theorem perm_back {α β : Type} {f : α → β} : ∀ {l : List β} {L : List α}, l.Perm (L.map f) → ∃ M : List α, l = M.map f ∧ M.Perm L
  | [], L, h => by
    have z := h.length_eq
    rw [List.length_map] at z
    exact ⟨[], rfl, by rw [List.eq_nil_of_length_eq_zero z.symm]⟩
  | x :: l, L, h => by
    obtain ⟨a, ha, e⟩ := List.mem_map.mp (h.mem_iff.mp (List.mem_cons_self (a := x) (l := l)))
    obtain ⟨L1, L2, rfl⟩ := List.append_of_mem ha
    have p : (L1 ++ a :: L2).Perm (a :: (L1 ++ L2)) := List.perm_middle
    have h2 := h.trans (p.map f)
    rw [List.map_cons, e] at h2
    obtain ⟨M, e2, pm⟩ := perm_back (List.Perm.cons_inv h2)
    exact ⟨a :: M, by rw [List.map_cons, e, e2], (pm.cons a).trans p.symm⟩
section
variable {A : Around} {E : Value → Shared → Prop} {s : Shared}
theorem class_apart {h : Heap} {a : Addr} {vs : List Value} {n : Nat} (ho : h.get? a = some (seqObj "list" vs.toArray n)) : ∀ b o, h.get? b = some o → o.cls = .type "tuple" → (TS.midHeap h a vs).get? b = some o := fun b o e hc =>
  TS.midHeap_old (fun z => by
    subst z
    obtain rfl := Option.some.inj (ho.symm.trans e)
    have z : Value.type "list" = Value.type "tuple" := hc
    injection z with z
    exact absurd z (by decide)) e
theorem sort_keys {lt : K → K → Bool} {good : K → Prop} (C : Cmps κ lt good) (O : Ord lt) {a : Addr} {vs : List Value} {n : Nat} {Q : Value → Shared → Prop} (ho : s.heap.get? a = some (seqObj "list" vs.toArray n)) (few : vs.length < 64)
    (all0 : ∀ v ∈ vs, ∃ k, κ.holds s.heap k v ∧ good k)
    (h : ∀ out : Array Value, out.toList.Perm vs → out.toList.Pairwise (fun u v => ∀ k j, κ.holds s.heap k u → κ.holds s.heap j v → lt j k = false) → Q .none { s with heap := sortedHeap s.heap a vs out }) :
    wpAny (model P w) A (call (.builtin "list.sort") [.ref a]) Q E s := by
  have all : ∀ v ∈ vs, ∃ k, κ.holds s.heap k v := fun v m => let ⟨k, x, _⟩ := all0 v m; ⟨k, x⟩
  refine wpAny_call_entry slot_list_sort ⟨_, ho, rfl⟩ entry_list_sort ?_ (args_list_sort _)
  refine SK.plain_sort (r := rank κ lt s.heap vs) ho few (fun two R hR => ?_) fun ps out h1 h2 h3 => ⟨_, rfl, ?_⟩
  · have keep := class_apart (h := s.heap) ho
    refine C (s := { s with heap := TS.midHeap s.heap a vs }) two (fun v m => let ⟨k, x, g⟩ := all0 v m; ⟨k, κ.stay x keep, g⟩) fun sk hc => hR sk fun x y hx hy Q' E' q => ?_
    rw [pairsOf_toList] at hx hy
    have mx := (mem_zip_self hx).2
    have my := (mem_zip_self hy).2
    obtain ⟨k, xk⟩ := all _ mx
    obtain ⟨j, xj⟩ := all _ my
    rw [rank_lt O all mx xk xj] at q
    exact hc _ mx _ my k j (κ.stay xk keep) (κ.stay xj keep) Q' E' q
  · obtain ⟨p, o⟩ := TS.out_rank h1 h2 h3
    refine h out p (List.Pairwise.imp_of_mem (fun {u v} hu hv le k j xk xj => ?_) o)
    rw [← rank_lt O all (p.mem_iff.mp hv) xj xk, decide_eq_false_iff_not]
    omega

theorem sort_set {lt : K → K → Bool} {good : K → Prop} (C : Cmps κ lt good) (O : Ord lt) {a : Addr} {L : List (Value × K)} {Q : Value → Shared → Prop} (S : SetAt κ s.heap a L) (gd : ∀ p ∈ L, good p.2) (hh : A.handled = none)
    (hQ : ∀ s' p (out : Array Value) (c : Nat) (M : List (Value × K)), (∀ b o, s.heap.get? b = some o → s'.heap.get? b = some o) → s'.gens = s.gens → s'.os = s.os → s.heap.objs.size ≤ p →
      s'.heap.get? p = some (seqObj "list" out c) → out.toList = M.map Prod.fst → M.Perm L → M.Pairwise (fun q r => lt q.2 r.2 = true) → Q (.ref p) s') :
    wpAny (model P w) A (call (.builtin "sorted") [.ref a]) Q E s := by
  obtain ⟨o, es, ep, t, R⟩ := S
  have size := rows_len R.rows
  have fewL := R.few
  refine Calls.call_function_entry kind_sorted plain_sorted entry_sorted (args_sorted1 _) ?_
  unfold Builtin.«sorted»
  refine wpAny_bind (m := checkCount "sorted" 1 1 _) (wpAny_pure ?_)
  refine wpAny_bind (collect_set (A := A.in1) hh ⟨o, R.at_, R.exact_.1, R.dat⟩ R.fit (by unfold scanBound; omega) R.up R.lead fun s1 vs k1 hz g1 o1 pm => ?_)
  have vals : es.toList.map (·.2) = L.map Prod.fst := by
    rw [R.rows, List.map_map]; rfl
  rw [vals] at pm
  have fewV : vs.length < 64 := by rw [pm.length_eq, List.length_map]; exact fewL
  have keep : ∀ b u, s.heap.get? b = some u → (s1.heap.push (seqObj "list" vs.toArray 0)).get? b = some u := fun b u e => Heap.get?_push_of_some _ (k1 b u e)
  have keyed : ∀ q ∈ L, κ.holds (s1.heap.push (seqObj "list" vs.toArray 0)) q.2 q.1 := fun q m => stay_all (R.mem q m) keep
  refine wpAny_bind (wpAny_newList ?_ (by rw [sizeLine_eq]; omega))
  have at1 : (s1.heap.push (seqObj "list" vs.toArray 0)).get? s1.heap.objs.size = some (seqObj "list" vs.toArray 0) := Heap.get?_push_size _ rfl
  refine wpAny_bind (wpAny_holding (sort_keys (s := { s1 with heap := s1.heap.push (seqObj "list" vs.toArray 0) }) C O at1 fewV (fun v m => ?_) fun out a1 a2 => ?_))
  · obtain ⟨q, hq, rfl⟩ := List.mem_map.mp (pm.mem_iff.mp m)
    exact ⟨q.2, keyed q hq, gd q hq⟩
  obtain ⟨c, hc⟩ := sortedHeap_at (vs := vs) (out := out) at1
  -- the rows of the values put out
  obtain ⟨M, e1, pM⟩ : ∃ M : List (Value × K), out.toList = M.map Prod.fst ∧ M.Perm L := by
    have z : out.toList.Perm (L.map Prod.fst) := a1.trans pm
    exact perm_back z
  have alone : M.Pairwise fun q r => q.2 ≠ r.2 := List.pairwise_map.mp ((pM.map Prod.snd).nodup_iff.mpr R.alone)
  have ups : M.Pairwise fun q r => lt q.2 r.2 = true := by
    rw [e1] at a2
    refine ((List.pairwise_map.mp a2).and alone).imp_of_mem fun {q r} hq hr ⟨z, ne⟩ => ?_
    have z1 := z q.2 r.2 (keyed q (pM.mem_iff.mp hq)) (keyed r (pM.mem_iff.mp hr))
    rcases O.tri q.2 r.2 with y | y | y
    · exact y
    · exact absurd y ne
    · rw [z1] at y; cases y
  refine wpAny_pure ⟨_, rfl, hQ _ s1.heap.objs.size out c M (fun b u e => ?_) g1 o1 hz hc e1 pM ups⟩
  have q := k1 b u e
  have below := Heap.lt_size q
  show (sortedHeap (s1.heap.push (seqObj "list" vs.toArray 0)) s1.heap.objs.size vs out).get? b = some u
  rw [sortedHeap_old (Nat.ne_of_lt below) (by rw [size_push']; exact Nat.lt_succ_of_lt below)]
  exact keep b u e
end
end DL.KS

set_option Elab.async false
set_option linter.all false
set_option maxRecDepth 100000
set_option maxHeartbeats 1000000
namespace DL.KS
open PySem PySem.Spec PyProof.Rows L2
variable {P : Program} {w : World} {K : Type} [DecidableEq K]

def kV (knd : PySem.KeyKind P w K) : Kd P w K where
  holds _ k v := knd.is k v = true
  code := knd.hash
  calm _ := True
  also _ _ := True
  one := fun h g => knd.inj _ _ _ h g
  stay := fun h _ => h

section
variable {A : Around} {E : Value → Shared → Prop} {s : Shared} {a : Addr} {knd : PySem.KeyKind P w K} {L : List (Value × K)}
theorem put_tail {g : Bool → Sem Unit} (hg : ∀ (b : Bool) (s₁ : Shared) (R : Unit → Shared → Prop), R () s₁ → wpAny (model P w) A (g b) R E s₁) {o : Obj} {es : Array (Int × Value)} {ep : Nat} {t : SetTable}
    (ho : s.heap.get? a = some o) (hx : o.ExactSet) (hd : o.data = .set es ep t) {es1 : Array (Int × Value)} {t1 : SetTable} {d : Bool} (rows : es1.toList = L.map (kV knd).row) (alone : (L.map Prod.snd).Nodup)
    (mem : ∀ p ∈ L, knd.is p.2 p.1 = true) (fit : t1.fits es1.size = true) (up : Ris t1.place.toList) (lead : w.params.followText "set-order" = true ∨ t1.led = true) (few : L.length < 64) {Q : Option Bool → Shared → Prop}
    (hQ : ∀ h' L', Heap.SameBut a s.heap h' → SetAt (kV knd) h' a L' → L'.Perm L → Q (some true) { s with heap := h' }) :
    wpAny (model P w) A (do
        storeSet a es1 t1
        if (!d && t1.tooFull) = true then do
            g (relayAll t1 es1 (SetTable.grown es1.size)).2.2
            storeSet a (relayAll t1 es1 (SetTable.grown es1.size)).1 (relayAll t1 es1 (SetTable.grown es1.size)).2.1
            pure (some true)
          else pure (some true)) Q E s := by
  have n1 := rows_len rows
  have at1 := L2.store_at (es' := es1) (t' := t1) ho hd
  have sb1 := Heap.SameBut.update s.heap a (Obj.putSet es1 t1)
  refine wpAny_bind (wpAny_storeSet_of ho hd ?_ (by rw [n1, sizeLine_eq]; omega))
  split
  · have pm := relayAll_perm t1 es1 (SetTable.grown es1.size)
    have f2 := relayAll_fits t1 es1 (SetTable.grown es1.size)
    have u2 := relayAll_ris t1 es1 (SetTable.grown es1.size)
    have l2 := relayAll_led t1 es1 (SetTable.grown es1.size)
    generalize relayAll t1 es1 (SetTable.grown es1.size) = Z at pm f2 u2 l2 ⊢
    obtain ⟨es2, t2, gave⟩ := Z
    dsimp only at pm f2 u2 l2 ⊢
    rw [rows] at pm
    obtain ⟨M, r2, pM⟩ := perm_back pm
    have n2 := rows_len r2
    rw [pM.length_eq] at n2
    refine wpAny_bind (hg _ _ _ (wpAny_bind (wpAny_storeSet_of at1 rfl ?_ (by rw [n2, sizeLine_eq]; omega))))
    have at2 := L2.store_at (es' := es2) (t' := t2) at1 rfl
    exact wpAny_pure (hQ _ M (sb1.trans (Heap.SameBut.update _ a _)) ⟨_, es2, _, t2, at2, hx, rfl, r2, (pM.map Prod.snd).nodup_iff.mpr alone, fun p m => mem p (pM.mem_iff.mp m), f2, u2, by rw [l2]; exact lead, by rw [pM.length_eq]; exact few, trivial⟩ pM)
  · exact wpAny_pure (hQ _ L sb1 ⟨_, es1, _, t1, at1, hx, rfl, rows, alone, mem, fit, up, lead, few, trivial⟩ (List.Perm.refl _))

theorem put_flat (sc : ∀ k v, knd.is k v = true → v.scannable = true) {x : Value} {k : K} (S : SetAt (kV knd) s.heap a L) (hk : knd.is k x = true) (few : k ∉ L.map Prod.snd → L.length + 1 < 64) {Q : Bool → Shared → Prop}
    (hQ : ∀ c h' L', Heap.SameBut a s.heap h' → SetAt (kV knd) h' a L' → (k ∈ L.map Prod.snd → L' = L) → (k ∉ L.map Prod.snd → L'.Perm ((x, k) :: L)) → Q c { s with heap := h' }) :
    wpAny (model P w) A (setAddHashed a x (knd.hash k)) Q E s := by
  obtain ⟨o, es, ep, t, R⟩ := id S
  have size := rows_len R.rows
  have fewL := R.few
  have bound : es.size < scanBound := by unfold scanBound; omega
  have els : ElemsOf knd es.toList := fun e he => by
    rw [R.rows] at he
    obtain ⟨p, hp, rfl⟩ := List.mem_map.mp he
    exact ⟨⟨p.2, R.mem p hp, rfl⟩, sc _ _ (R.mem p hp)⟩
  unfold setAddHashed setAddHashedIn
  refine wpAny_holding (wpAny_bind (wpAny_setState_of R.at_ R.dat R.fit ?_))
  dsimp only
  rw [byScan_of (sc _ _ hk) bound els]
  simp only [↓reduceIte]
  unfold setAddByScan
  refine wpAny_bind (wpAny_bind (wpAny_rule (wpAny_bind (wpAny_setScan_of hk R.at_ R.dat R.fit els ?_))))
  cases hf : List.findIdx? (fun e => knd.is k e.2) es.toList with
  | some j =>
    obtain ⟨hj, pj, _⟩ := List.findIdx?_eq_some_iff_getElem.mp hf
    have me : es.toList[j] ∈ L.map (kV knd).row := by rw [← R.rows]; exact List.getElem_mem hj
    obtain ⟨p, hp, e⟩ := List.mem_map.mp me
    rw [← e] at pj
    have kin : k ∈ L.map Prod.snd := List.mem_map.mpr ⟨p, hp, knd.inj _ _ _ (R.mem p hp) pj⟩
    dsimp only
    exact wpAny_pure (wpAny_pure (hQ false s.heap L (Heap.SameBut.refl a s.heap) S (fun _ => rfl) fun z => absurd kin z))
  | none =>
    have nk : k ∉ L.map Prod.snd := fun z => by
      obtain ⟨p, hp, e⟩ := List.mem_map.mp z
      have c := List.findIdx?_eq_none_iff.mp hf ((kV knd).row p) (by rw [R.rows]; exact List.mem_map_of_mem hp)
      have q := R.mem p hp
      rw [e] at q
      have q2 : knd.is k p.1 = true := q
      rw [show knd.is k ((kV knd).row p).2 = knd.is k p.1 from rfl, q2] at c
      cases c
    dsimp only
    have pm := layNew_perm t es (knd.hash k) x
    have f1 := layNew_fits t es (knd.hash k) x
    have u1 := layNew_ris t es (knd.hash k) x R.up
    have l1 := layNew_led t es (knd.hash k) x
    generalize layNew t es (knd.hash k) x = Z at pm f1 u1 l1 ⊢
    obtain ⟨es1, t1, d, gave⟩ := Z
    dsimp only at pm f1 u1 l1 ⊢
    rw [Array.toList_push, R.rows] at pm
    obtain ⟨M, r1, pM⟩ := perm_back (L := (x, k) :: L) (f := (kV knd).row) (pm.trans (List.perm_append_singleton _ _))
    have alone : (M.map Prod.snd).Nodup := (pM.map Prod.snd).nodup_iff.mpr (List.nodup_cons.mpr ⟨nk, R.alone⟩)
    have mem : ∀ p ∈ M, knd.is p.2 p.1 = true := fun p m => by
      rcases List.mem_cons.mp (pM.mem_iff.mp m) with rfl | z
      · exact hk
      · exact R.mem p z
    have lead : w.params.followText "set-order" = true ∨ t1.led = true := by rw [l1]; exact R.lead
    have fewM : M.length < 64 := by rw [pM.length_eq]; exact few nk
    have said : ∀ (b : Bool) {s₁ : Shared} {R' : Unit → Shared → Prop}, R' () s₁ → wpAny (model P w) A (match b with | true => rule "set.scan.the-table-gave-way" | false => pure ()) R' E s₁ :=
      fun b s₁ R' q => by cases b <;> first | exact wpAny_pure q | exact wpAny_rule q
    have fin : ∀ h' L', Heap.SameBut a s.heap h' → SetAt (kV knd) h' a L' → L'.Perm M → Q true { s with heap := h' } := fun h' L' sb S' p => hQ true h' L' sb S' (fun z => absurd z nk) fun _ => p.trans pM
    refine wpAny_bind (said _ ?_)
    split
    · refine wpAny_bind ?_
      rw [hashByValue_scannable 8 (sc _ _ hk)]
      refine wpAny_pure ?_
      refine put_tail ?_ R.at_ R.exact_ R.dat r1 alone mem ?_ ?_ ?_ fewM ?_
      · intro b s₁ R' q; cases b <;> first | exact wpAny_pure q | exact wpAny_rule q
      · split <;> first | exact f1 | exact SetTable.fits_plain_off f1
      · split <;> exact u1
      · split <;> exact lead
      · intro h' L' sb S' p; dsimp only; exact wpAny_pure (fin h' L' sb S' p)
    · refine wpAny_bind (wpAny_pure ?_)
      simp only [↓reduceIte]
      refine put_tail ?_ R.at_ R.exact_ R.dat r1 alone mem f1 u1 lead fewM ?_
      · intro b s₁ R' q; cases b <;> first | exact wpAny_pure q | exact wpAny_rule q
      · intro h' L' sb S' p; dsimp only; exact wpAny_pure (fin h' L' sb S' p)
end
theorem takes_flat {knd : PySem.KeyKind P w K} (sc : ∀ k v, knd.is k v = true → v.scannable = true) : Takes (kV knd) := by
  intro A E s a x k L Q _ hk S few hQ
  unfold setAdd
  refine wpAny_holding (wpAny_bind (knd.pyHash hk ?_))
  exact put_flat (s := { s with toks := s.toks + 1 }) sc S hk few fun c h' L' sb S1 c1 c2 => hQ c h' _ L' (Nat.le_succ _) sb S1 c1 c2

def sLt (a b : Str) : Bool := decide (a.cps.toList < b.cps.toList)
theorem ord_str : Ord sLt where
  irr a := by unfold sLt; simpa using List.lt_irrefl a.cps.toList
  trans a b c h g := by
    unfold sLt at *
    rw [decide_eq_true_eq] at *
    exact List.lt_trans h g
  tri a b := by
    unfold sLt
    rw [decide_eq_true_eq, decide_eq_true_eq]
    by_cases h : a.cps.toList < b.cps.toList
    · exact .inl h
    by_cases g : b.cps.toList < a.cps.toList
    · exact .inr (.inr g)
    have e := List.le_antisymm (List.not_lt.mp g) (List.not_lt.mp h)
    refine .inr (.inl ?_)
    cases a; cases b
    exact congrArg Str.mk (Array.toList_inj.mp e)
def iLt (a b : Int) : Bool := decide (a < b)
theorem ord_int : Ord iLt where
  irr a := by unfold iLt; simp
  trans a b c h g := by unfold iLt at *; rw [decide_eq_true_eq] at *; omega
  tri a b := by unfold iLt; rw [decide_eq_true_eq, decide_eq_true_eq]; omega
def tLt : List Str → List Str → Bool
  | [], [] => false
  | [], _ :: _ => true
  | _ :: _, [] => false
  | a :: r, b :: q => if a = b then tLt r q else sLt a b
theorem tLt_irr : ∀ a, tLt a a = false
  | [] => rfl
  | a :: r => by rw [tLt, if_pos rfl]; exact tLt_irr r
theorem tLt_trans : ∀ a b c, tLt a b = true → tLt b c = true → tLt a c = true
  | [], [], _, h, _ => by cases h
  | [], _ :: _, [], _, g => by cases g
  | [], _ :: _, _ :: _, _, _ => rfl
  | _ :: _, [], _, h, _ => by cases h
  | _ :: _, _ :: _, [], _, g => by cases g
  | a :: r, b :: q, c :: p, h, g => by
    rw [tLt] at h g ⊢
    by_cases e : a = b
    · subst e
      rw [if_pos rfl] at h
      by_cases f : a = c
      · rw [if_pos f] at g ⊢; exact tLt_trans r q p h g
      · rw [if_neg f] at g ⊢; exact g
    · rw [if_neg e] at h
      by_cases f : b = c
      · subst f
        rw [if_neg e]; exact h
      · rw [if_neg f] at g
        have z := ord_str.trans _ _ _ h g
        rw [if_neg]
        · exact z
        · intro y
          subst y
          rw [ord_str.irr] at z
          cases z
theorem tLt_tri : ∀ a b, tLt a b = true ∨ a = b ∨ tLt b a = true
  | [], [] => .inr (.inl rfl)
  | [], _ :: _ => .inl rfl
  | _ :: _, [] => .inr (.inr rfl)
  | a :: r, b :: q => by
    rw [tLt, tLt]
    by_cases e : a = b
    · subst e
      rw [if_pos rfl, if_pos rfl]
      rcases tLt_tri r q with h | h | h
      · exact .inl h
      · exact .inr (.inl (by rw [h]))
      · exact .inr (.inr h)
    · rw [if_neg e, if_neg fun z => e z.symm]
      rcases ord_str.tri a b with h | h | h
      · exact .inl h
      · exact absurd h e
      · exact .inr (.inr h)
theorem ord_tup : Ord tLt := ⟨tLt_irr, tLt_trans, tLt_tri⟩

section
variable {A : Around} {E : Value → Shared → Prop} {s : Shared}
theorem one_text (c : Bool) {a b : Str} {t u : Tok} {Q : Bool → Shared → Prop} (h : Q (sLt a b) s) : wpAny (model P w) A (oneLt' c (.str a t) (.str b u)) Q E s := by
  cases c with
  | true => exact oneLt_str h
  | false => exact PySem.W.kat_one _ _ (PyProof.Rows.lt_str (Q := PySem.W.BoolBack Q) h)
theorem lex_texts {b fin : Bool} {Q : Bool → Shared → Prop} {ns ms : List Str} {xs ys : List Value} (i : Nat) (hx : ItemsAre (PySem.strKind P w) ns xs) (hy : ItemsAre (PySem.strKind P w) ms ys)
    (hf : fin = decide (xs.length < ys.length)) (h : Q (tLt ns ms) s) : PySem.W.KatLex P w A b fin Q (xs.zip ys) i s := by
  induction hx generalizing ys ms i with
  | nil =>
    refine PySem.W.kat_nil ?_
    rw [hf]
    cases hy with
    | nil => exact h
    | cons q u =>
      rw [decide_eq_true (by simp)]
      exact h
  | @cons k v ks vs h1 hx ih =>
    cases hy with
    | nil =>
      refine PySem.W.kat_nil ?_
      rw [hf, decide_eq_false (by simp)]
      exact h
    | @cons j u js us h2 hy =>
      obtain ⟨t, rfl⟩ := Value.isStrOf_shape h1
      obtain ⟨t', rfl⟩ := Value.isStrOf_shape h2
      show PySem.W.KatLex P w A b fin Q ((Value.str k t, Value.str j t') :: vs.zip us) i s
      refine PySem.W.kat_cons (wpAny_eqBool_str ?_)
      rw [tLt] at h
      by_cases e : k = j
      · rw [if_pos e] at h
        rw [decide_eq_true e]
        exact PySem.W.kat_yes (ih (i + 1) hy (by rw [hf]; simp) h)
      · rw [if_neg e] at h
        rw [decide_eq_false e]
        exact PySem.W.kat_no (one_text _ h)
end
theorem firsts {h : Heap} : ∀ vs : List Value, (∀ v ∈ vs, ∃ k, (kT P w).holds h k v ∧ k ≠ []) → ∃ fs, PySem.W.KatTups h vs fs ∧ fs.length = vs.length ∧ ∀ f ∈ fs, ∃ x u, f = Value.str x u
  | [], _ => ⟨[], PySem.W.KatTups.nil, rfl, fun f m => nomatch m⟩
  | v :: vs, g => by
    obtain ⟨fs, h1, h2, h3⟩ := firsts vs fun u m => g u (List.mem_cons_of_mem _ m)
    obtain ⟨k, ⟨b, rfl, o, its, n, ho, hc, hd, hi⟩, ne⟩ := g v List.mem_cons_self
    have texts := texts_shape hi
    cases e : its.toList with
    | nil =>
      rw [e] at hi
      cases hi
      exact absurd rfl ne
    | cons y ys =>
      have z := congrArg (fun l : List Value => l[0]?) e
      refine ⟨y :: fs, PySem.W.KatTups.cons ho hc hd (by simpa using z) h1, by simp [h2], fun f m => ?_⟩
      rcases List.mem_cons.mp m with rfl | m
      · exact texts f (by rw [e]; exact List.mem_cons_self)
      · exact h3 f m
theorem cmps_tups : Cmps (kT P w) tLt (· ≠ []) := by
  intro A E s vs Q two all hQ
  obtain ⟨fs, h1, h2, h3⟩ := firsts vs all
  refine PySem.W.kat_kind (T := Value.type "str") h1 (by omega) (fun f m => ?_) rfl (hQ _ fun u hu v hv k j hk hj C E' q => ?_)
  · obtain ⟨x, t, rfl⟩ := h3 f m
    exact PySem.W.Looks.of_pure rfl
  · obtain ⟨b, rfl, o, xs, n, ho, hc, hd, hi⟩ := hk
    obtain ⟨b', rfl, o', ys, n', ho', hc', hd', hi'⟩ := hj
    refine PySem.W.kat_lt ho hd ho' hd' (lex_texts 0 hi hi' ?_ q)
    rw [Array.length_toList, Array.length_toList]
theorem strs_are : ∀ vs : List Value, (∀ v ∈ vs, ∃ x u, v = Value.str x u) → ∃ xs, StrsAre vs xs
  | [], _ => ⟨[], .nil⟩
  | v :: vs, h => by
    obtain ⟨x, u, rfl⟩ := h v List.mem_cons_self
    obtain ⟨xs, r⟩ := strs_are vs fun y m => h y (List.mem_cons_of_mem _ m)
    exact ⟨x :: xs, .cons x u r⟩
theorem cmps_strs : Cmps (kV (PySem.strKind P w)) sLt (fun _ => True) := by
  intro A E s vs Q two all hQ
  obtain ⟨xs, r⟩ := strs_are vs fun v m => by
    obtain ⟨k, hk, _⟩ := all v m
    obtain ⟨t, e⟩ := Value.isStrOf_shape hk
    exact ⟨k, t, e⟩
  match vs, two, all, hQ, r with
  | v1 :: v2 :: vs, two, all, hQ, r =>
    rw [keyKind_strs r]
    refine wpAny_pure (hQ _ fun u hu v hv k j hk hj C E' q => ?_)
    obtain ⟨t, rfl⟩ := Value.isStrOf_shape hk
    obtain ⟨t', rfl⟩ := Value.isStrOf_shape hj
    rw [keyLt'_oneType]
    exact one_text true q
end DL.KS

set_option Elab.async false
set_option linter.all false
set_option maxRecDepth 100000
set_option maxHeartbeats 1000000
namespace DL
open PySem L2

inductive D where
  | non | bl (b : Bool) | int (i : Int) | str (s : Str) | tup (ds : List D) | seq (ds : List D) | ref (n : Nat)
inductive O where
  | lst (ds : List D)
  | dct (kvs : List (Key × D))
  | ins (c : Str) (fs : List (Str × D))
  | st (ds : List D)
abbrev Sto := List O
inductive R (α : Type) where
  | ok (a : α) (S : Sto)
  | exc (c : Str) (S : Sto)
  | bad
def R.bind {α β : Type} : R α → (α → Sto → R β) → R β
  | .ok a S, k => k a S
  | .exc c S, _ => .exc c S
  | .bad, _ => .bad
@[simp] theorem R.bind_ok {α β : Type} (a : α) (S : Sto) (k : α → Sto → R β) : (R.ok a S).bind k = k a S := rfl
@[simp] theorem R.bind_exc {α β : Type} (c : Str) (S : Sto) (k : α → Sto → R β) : (R.exc c S : R α).bind k = .exc c S := rfl
@[simp] theorem R.bind_bad {α β : Type} (k : α → Sto → R β) : (R.bad : R α).bind k = .bad := rfl
structure Gc where
  K : PySem.W.Frag
  cA : Str → Option Addr
  xA : Str → Option Addr

def KL (K : PySem.W.Frag) (a : Addr) (xs : List V) : Prop :=
  ∃ (o : Obj) (its : Array Value) (n : Nat), K.lookup a = some o ∧ o.cls = .type "list" ∧ o.dict = none ∧ o.data = .seq its n ∧ its.size ≤ sizeLine ∧ Vals xs its.toList
def TupA (μ : List Addr) (H : Hp) (a : Addr) (xs : List V) : Prop := a ∉ μ ∧ Rd H a (.tup xs)
def BareA (H : Hp) (a : Addr) (xs : List V) : Prop := ∃ o, H a = some (.frz o (.tup xs)) ∧ o.dict = none
def txts : List D → Bool
  | [] => true
  | .str _ :: r => txts r
  | _ :: _ => false
def LstA (K : PySem.W.Frag) (μ : List Addr) (H : Hp) (a : Addr) (xs : List V) : Prop := (a ∉ μ ∧ ∃ o, H a = some (.frz o (.lst xs))) ∨ KL K a xs
theorem TupA.sq {K : PySem.W.Frag} {μ : List Addr} {H : Hp} {a : Addr} {xs : List V} (h : TupA μ H a xs) : SqT K H a xs := .inl h.2
theorem LstA.sq {K : PySem.W.Frag} {μ : List Addr} {H : Hp} {a : Addr} {xs : List V} (h : LstA K μ H a xs) : SqL K H a xs := h.elim (fun h => .inl (.inr h.2)) .inr
theorem LstA.of {K : PySem.W.Frag} {H : Hp} {a : Addr} {xs : List V} (hO : Only H) (h : SqL K H a xs) : LstA K [] H a xs := by
  rcases h with (h | h) | h
  · rcases hO a with z | ⟨o, ys, z⟩
    · rw [z] at h; cases h
    · rw [z] at h; cases h
  · exact .inl ⟨by simp, h⟩
  · exact .inr h

structure Gr (μ : List Addr) (H : Hp) (μ' : List Addr) (H' : Hp) : Prop where
  pre : ∃ ν, μ' = μ ++ ν ∧ ∀ a ∈ ν, H a = none
  keep : ∀ a o, a ∉ μ → H a = some o → H' a = some o
  live : ∀ a, H' a = none → H a = none
theorem Gr.refl {μ : List Addr} {H : Hp} : Gr μ H μ H := ⟨⟨[], by simp, by simp⟩, fun _ _ _ h => h, fun _ h => h⟩
theorem Gr.notin {μ μ' : List Addr} {H H' : Hp} (g : Gr μ H μ' H') {a : Addr} {o : HO} (h : H a = some o) (n : a ∉ μ) : a ∉ μ' := by
  obtain ⟨ν, e, hn⟩ := g.pre
  rw [e]
  intro m
  rcases List.mem_append.mp m with m | m
  · exact n m
  · rw [hn a m] at h
    cases h
theorem Gr.trans {μ μ1 μ2 : List Addr} {H H1 H2 : Hp} (a : Gr μ H μ1 H1) (b : Gr μ1 H1 μ2 H2) : Gr μ H μ2 H2 := by
  refine ⟨?_, fun c o n h => b.keep c o (a.notin h n) (a.keep c o n h), fun c h => a.live c (b.live c h)⟩
  obtain ⟨ν, e, hn⟩ := a.pre
  obtain ⟨ν', e', hn'⟩ := b.pre
  refine ⟨ν ++ ν', by rw [e', e, List.append_assoc], fun c m => ?_⟩
  rcases List.mem_append.mp m with m | m
  · exact hn c m
  · exact a.live c (hn' c m)
def imm : HO → Bool
  | .tup _ => true
  | .frz _ _ => true
  | _ => false
structure Gi (μ : List Addr) (H : Hp) (μ' : List Addr) (H' : Hp) : Prop where
  pre : ∃ ν, μ' = μ ++ ν ∧ ∀ a ∈ ν, ∀ o, H a = some o → imm o = false
  keep : ∀ a o, a ∉ μ → H a = some o → imm o = true → H' a = some o
theorem Gr.i {μ μ' : List Addr} {H H' : Hp} (g : Gr μ H μ' H') : Gi μ H μ' H' := by
  obtain ⟨ν, e, hn⟩ := g.pre
  exact ⟨⟨ν, e, fun a m o h => by rw [hn a m] at h; cases h⟩, fun a o n h _ => g.keep a o n h⟩
theorem Gi.notin {μ μ' : List Addr} {H H' : Hp} (g : Gi μ H μ' H') {a : Addr} {o : HO} (h : H a = some o) (i : imm o = true) (n : a ∉ μ) : a ∉ μ' := by
  obtain ⟨ν, e, hn⟩ := g.pre
  rw [e]
  intro m
  rcases List.mem_append.mp m with m | m
  · exact n m
  · rw [hn a m o h] at i
    cases i
theorem Gi.get {μ μ' : List Addr} {H H' : Hp} (g : Gi μ H μ' H') {n : Nat} {a : Addr} (h : μ[n]? = some a) : μ'[n]? = some a := by
  obtain ⟨ν, e, _⟩ := g.pre
  rw [e, List.getElem?_append_left (List.getElem?_eq_some_iff.mp h).1]
  exact h
theorem TupA.monoI {μ μ' : List Addr} {H H' : Hp} (g : Gi μ H μ' H') {a : Addr} {xs : List V} (h : TupA μ H a xs) : TupA μ' H' a xs :=
  h.2.elim (fun e => ⟨g.notin e rfl h.1, .inl (g.keep _ _ h.1 e rfl)⟩) fun ⟨o, e⟩ => ⟨g.notin e rfl h.1, .inr ⟨o, g.keep _ _ h.1 e rfl⟩⟩
theorem BareA.monoI {μ μ' : List Addr} {H H' : Hp} (g : Gi μ H μ' H') {a : Addr} {xs : List V} (n : a ∉ μ) : BareA H a xs → BareA H' a xs := fun ⟨o, e, d⟩ => ⟨o, g.keep _ _ n e rfl, d⟩
theorem LstA.monoI {K : PySem.W.Frag} {μ μ' : List Addr} {H H' : Hp} (g : Gi μ H μ' H') {a : Addr} {xs : List V} (h : LstA K μ H a xs) : LstA K μ' H' a xs :=
  h.elim (fun ⟨n, o, h⟩ => .inl ⟨g.notin h rfl n, o, g.keep _ _ n h rfl⟩) .inr
theorem Gr.get {μ μ' : List Addr} {H H' : Hp} (g : Gr μ H μ' H') {n : Nat} {a : Addr} (h : μ[n]? = some a) : μ'[n]? = some a := by
  obtain ⟨ν, e, _⟩ := g.pre
  rw [e, List.getElem?_append_left (List.getElem?_eq_some_iff.mp h).1]
  exact h
theorem Gr.new {μ : List Addr} {H : Hp} {p : Addr} {o : HO} (h : H p = none) : Gr μ H μ (upd H p o) := by
  refine ⟨⟨[], by simp, by simp⟩, fun a u _ e => ?_, fun a e => ?_⟩
  · rw [upd_ne (ne_of_none e h)]
    exact e
  · by_cases q : a = p
    · rw [q]
      exact h
    · rw [upd_ne q] at e
      exact e
theorem Gr.obj {μ : List Addr} {H : Hp} {p : Addr} {o : HO} (h : H p = none) : Gr μ H (μ ++ [p]) (upd H p o) := by
  refine ⟨⟨[p], rfl, fun a m => by rw [List.mem_singleton.mp m]; exact h⟩, (Gr.new h).keep, (Gr.new (μ := μ) h).live⟩
theorem Gr.write {μ : List Addr} {H : Hp} {p : Addr} {o : HO} (h : p ∈ μ) : Gr μ H μ (upd H p o) := by
  refine ⟨⟨[], by simp, by simp⟩, fun a u n e => ?_, fun a e => ?_⟩
  · rw [upd_ne fun q : a = p => n (by rw [q]; exact h)]
    exact e
  · by_cases q : a = p
    · rw [q, upd_same] at e
      cases e
    · rw [upd_ne q] at e
      exact e

mutual
inductive RV (K : PySem.W.Frag) (μ : List Addr) (H : Hp) : V → D → Prop
  | non : RV K μ H .non .non
  | bl (b : Bool) : RV K μ H (.bl b) (.bl b)
  | int (i : Int) : RV K μ H (.int i) (.int i)
  | str (x : Str) : RV K μ H (.str x) (.str x)
  | tup {a : Addr} {xs : List V} {ds : List D} : TupA μ H a xs → (txts ds = true → BareA H a xs) → RVs K μ H xs ds → RV K μ H (.ref a) (.tup ds)
  | seq {a : Addr} {xs : List V} {ds : List D} : LstA K μ H a xs → RVs K μ H xs ds → RV K μ H (.ref a) (.seq ds)
  | ref {n : Nat} {a : Addr} : μ[n]? = some a → RV K μ H (.ref a) (.ref n)
inductive RVs (K : PySem.W.Frag) (μ : List Addr) (H : Hp) : List V → List D → Prop
  | nil : RVs K μ H [] []
  | cons {v : V} {vs : List V} {d : D} {ds : List D} : RV K μ H v d → RVs K μ H vs ds → RVs K μ H (v :: vs) (d :: ds)
end
section
variable {K : PySem.W.Frag} {μ μ' : List Addr} {H H' : Hp}
mutual
theorem RV.monoI (g : Gi μ H μ' H') : ∀ {v : V} {d : D}, RV K μ H v d → RV K μ' H' v d
  | _, _, .non => .non
  | _, _, .bl b => .bl b
  | _, _, .int i => .int i
  | _, _, .str x => .str x
  | _, _, .tup t b r => .tup (t.monoI g) (fun e => (b e).monoI g t.1) (RVs.monoI g r)
  | _, _, .seq t r => .seq (t.monoI g) (RVs.monoI g r)
  | _, _, .ref e => .ref (g.get e)
theorem RVs.monoI (g : Gi μ H μ' H') : ∀ {vs : List V} {ds : List D}, RVs K μ H vs ds → RVs K μ' H' vs ds
  | _, _, .nil => .nil
  | _, _, .cons h t => .cons (RV.monoI g h) (RVs.monoI g t)
end
theorem RV.mono (g : Gr μ H μ' H') {v : V} {d : D} (h : RV K μ H v d) : RV K μ' H' v d := h.monoI g.i
theorem RVs.mono (g : Gr μ H μ' H') {vs : List V} {ds : List D} (h : RVs K μ H vs ds) : RVs K μ' H' vs ds := h.monoI g.i
theorem RVs.length : ∀ {vs : List V} {ds : List D}, RVs K μ H vs ds → vs.length = ds.length
  | _, _, .nil => rfl
  | _, _, .cons _ t => congrArg (· + 1) (RVs.length t)
theorem RVs.get : ∀ {vs : List V} {ds : List D} {i : Nat} {d : D}, RVs K μ H vs ds → ds[i]? = some d → ∃ v, vs[i]? = some v ∧ RV K μ H v d
  | _, _, _, _, .nil, e => by simp at e
  | _, _, 0, _, .cons h _, e => by simp at e; subst e; exact ⟨_, rfl, h⟩
  | _, _, i + 1, d, .cons _ t, e => by
    obtain ⟨v, h1, h2⟩ := RVs.get (i := i) (d := d) t (by simpa using e)
    exact ⟨v, by simpa using h1, h2⟩
theorem RVs.at : ∀ {vs : List V} {ds : List D} {i : Nat} {v : V}, RVs K μ H vs ds → vs[i]? = some v → ∃ d, ds[i]? = some d ∧ RV K μ H v d
  | _, _, _, _, .nil, e => by simp at e
  | _, _, 0, _, .cons h _, e => by simp at e; subst e; exact ⟨_, rfl, h⟩
  | _, _, i + 1, d, .cons _ t, e => by
    obtain ⟨v, h1, h2⟩ := RVs.at (i := i) (v := d) t (by simpa using e)
    exact ⟨v, by simpa using h1, h2⟩
theorem RVs.append : ∀ {vs ws : List V} {ds es : List D}, RVs K μ H vs ds → RVs K μ H ws es → RVs K μ H (vs ++ ws) (ds ++ es)
  | _, _, _, _, .nil, s => s
  | _, _, _, _, .cons h t, s => .cons h (RVs.append t s)
theorem RVs.take : ∀ {vs : List V} {ds : List D} (n : Nat), RVs K μ H vs ds → RVs K μ H (vs.take n) (ds.take n)
  | _, _, 0, _ => by rw [List.take_zero, List.take_zero]; exact .nil
  | _, _, _ + 1, .nil => .nil
  | _, _, n + 1, .cons h t => .cons h (RVs.take n t)
theorem RVs.drop : ∀ {vs : List V} {ds : List D} (n : Nat), RVs K μ H vs ds → RVs K μ H (vs.drop n) (ds.drop n)
  | _, _, 0, r => r
  | _, _, _ + 1, .nil => .nil
  | _, _, n + 1, .cons _ t => RVs.drop n t
theorem RVs.set {v : V} {d : D} (h : RV K μ H v d) : ∀ {vs : List V} {ds : List D} (n : Nat), RVs K μ H vs ds → RVs K μ H (vs.set n v) (ds.set n d)
  | _, _, _, .nil => .nil
  | _, _, 0, .cons _ t => .cons h t
  | _, _, n + 1, .cons q t => .cons q (RVs.set h n t)
theorem RVs.rev : ∀ {vs : List V} {ds : List D}, RVs K μ H vs ds → RVs K μ H vs.reverse ds.reverse
  | _, _, .nil => .nil
  | _, _, .cons h t => by
    rw [List.reverse_cons, List.reverse_cons]
    exact (RVs.rev t).append (.cons h .nil)
theorem RVs.rep {vs : List V} {ds : List D} (h : RVs K μ H vs ds) : ∀ n : Nat, RVs K μ H (List.replicate n vs).flatten (List.replicate n ds).flatten
  | 0 => .nil
  | n + 1 => by
    rw [List.replicate_succ, List.replicate_succ, List.flatten_cons, List.flatten_cons]
    exact h.append (RVs.rep h n)
theorem RVs.bls : ∀ {vs : List V} {ns : List Bool}, RVs K μ H vs (ns.map D.bl) → vs = ns.map V.bl
  | _, [], .nil => rfl
  | _, _ :: _, .cons (.bl _) t => by rw [RVs.bls t]; rfl
theorem RVs.strs : ∀ {vs : List V} {ns : List Str}, RVs K μ H vs (ns.map D.str) → vs = ns.map V.str
  | _, [], .nil => rfl
  | _, _ :: _, .cons (.str _) t => by rw [RVs.strs t]; rfl
end

inductive RKs (K : PySem.W.Frag) (μ : List Addr) (H : Hp) {κ : Type} : List (κ × V) → List (κ × D) → Prop
  | nil : RKs K μ H [] []
  | cons {k : κ} {v : V} {vs : List (κ × V)} {d : D} {ds : List (κ × D)} : RV K μ H v d → RKs K μ H vs ds → RKs K μ H ((k, v) :: vs) ((k, d) :: ds)
theorem RKs.monoI {K : PySem.W.Frag} {μ μ' : List Addr} {H H' : Hp} {κ : Type} (g : Gi μ H μ' H') : ∀ {vs : List (κ × V)} {ds : List (κ × D)}, RKs K μ H vs ds → RKs K μ' H' vs ds
  | _, _, .nil => .nil
  | _, _, .cons h t => .cons (h.monoI g) (RKs.monoI g t)
theorem RKs.mono {K : PySem.W.Frag} {μ μ' : List Addr} {H H' : Hp} {κ : Type} (g : Gr μ H μ' H') {vs : List (κ × V)} {ds : List (κ × D)} (h : RKs K μ H vs ds) : RKs K μ' H' vs ds := h.monoI g.i
theorem RKs.length {K : PySem.W.Frag} {μ : List Addr} {H : Hp} {κ : Type} : ∀ {vs : List (κ × V)} {ds : List (κ × D)}, RKs K μ H vs ds → vs.length = ds.length
  | _, _, .nil => rfl
  | _, _, .cons _ t => congrArg (· + 1) (RKs.length t)

def RO (G : Gc) (μ : List Addr) (H : Hp) (a : Addr) : O → Prop
  | .lst ds => ∃ xs, H a = some (.lst xs) ∧ RVs G.K μ H xs ds
  | .dct ds => ∃ ws, H a = some (.dK ws) ∧ RKs G.K μ H ws ds
  | .ins c fs => ∃ C dx ws, G.cA c = some C ∧ H a = some (.ins C dx ws) ∧ RKs G.K μ H ws fs
  | .st _ => False
structure HS (G : Gc) (μ : List Addr) (S : Sto) (H : Hp) : Prop where
  len : μ.length = S.length
  nd : μ.Nodup
  at_ : ∀ (n : Nat) (a : Addr) (o : O), μ[n]? = some a → S[n]? = some o → RO G μ H a o
section
variable {G : Gc} {μ μ' : List Addr} {S S' : Sto} {H H' : Hp}
theorem HS.there (h : HS G μ S H) {n : Nat} {a : Addr} (e : μ[n]? = some a) : ∃ o, S[n]? = some o ∧ RO G μ H a o := by
  have hn : n < μ.length := (List.getElem?_eq_some_iff.mp e).1
  have hs : n < S.length := by rw [← h.len]; exact hn
  exact ⟨S[n], List.getElem?_eq_getElem hs, h.at_ n a _ e (List.getElem?_eq_getElem hs)⟩
theorem RO.some {a : Addr} {o : O} (h : RO G μ H a o) : ∃ u, H a = some u := by
  cases o with
  | lst ds => obtain ⟨_, h, _⟩ := h; exact ⟨_, h⟩
  | dct ds => obtain ⟨_, h, _⟩ := h; exact ⟨_, h⟩
  | ins c fs => obtain ⟨_, _, _, _, h, _⟩ := h; exact ⟨_, h⟩
  | st ds => exact h.elim
theorem HS.mem (h : HS G μ S H) {a : Addr} (m : a ∈ μ) : ∃ u, H a = some u := by
  obtain ⟨n, e⟩ := List.getElem?_of_mem m
  obtain ⟨o, _, r⟩ := h.there e
  exact r.some
theorem HS.fresh (h : HS G μ S H) {a : Addr} (e : H a = none) : a ∉ μ := fun m => by
  obtain ⟨u, q⟩ := h.mem m
  rw [e] at q
  cases q
theorem RO.keepI (g : Gi μ H μ' H') {a : Addr} {o : O} (e : H' a = H a) (h : RO G μ H a o) : RO G μ' H' a o := by
  cases o with
  | lst ds => obtain ⟨xs, h, r⟩ := h; exact ⟨xs, e.trans h, r.monoI g⟩
  | dct ds => obtain ⟨xs, h, r⟩ := h; exact ⟨xs, e.trans h, r.monoI g⟩
  | ins c fs => obtain ⟨C, dx, ws, hc, h, r⟩ := h; exact ⟨C, dx, ws, hc, e.trans h, r.monoI g⟩
  | st ds => exact h
theorem RO.keep (g : Gr μ H μ' H') {a : Addr} {o : O} (e : H' a = H a) (h : RO G μ H a o) : RO G μ' H' a o := h.keepI g.i e
theorem HS.beside (h : HS G μ S H) {p : Addr} {u : HO} (hp : H p = none) : HS G μ S (upd H p u) := by
  refine ⟨h.len, h.nd, fun n a o e1 e2 => ?_⟩
  have r := h.at_ n a o e1 e2
  obtain ⟨v, hv⟩ := r.some
  exact r.keep (Gr.new hp) (upd_ne (ne_of_none hv hp))
theorem HS.grow (h : HS G μ S H) {p : Addr} {u : HO} {o : O} (hp : H p = none) (r : RO G (μ ++ [p]) (upd H p u) p o) : HS G (μ ++ [p]) (S ++ [o]) (upd H p u) := by
  refine ⟨by simp [h.len], ?_, fun n a o' e1 e2 => ?_⟩
  · rw [List.nodup_append]
    refine ⟨h.nd, by simp, fun a m b m' => ?_⟩
    rw [List.mem_singleton.mp m']
    rintro rfl
    exact h.fresh hp m
  · by_cases hn : n < μ.length
    · rw [List.getElem?_append_left hn] at e1
      rw [List.getElem?_append_left (by rw [← h.len]; exact hn)] at e2
      have r := h.at_ n a o' e1 e2
      obtain ⟨v, hv⟩ := r.some
      exact r.keep (Gr.obj hp) (upd_ne (ne_of_none hv hp))
    · have hn : μ.length ≤ n := Nat.le_of_not_lt hn
      rw [List.getElem?_append_right hn] at e1
      rw [List.getElem?_append_right (by rw [← h.len]; exact hn)] at e2
      have e0 : n - μ.length = 0 := by
        cases q : n - μ.length with
        | zero => rfl
        | succ m => rw [q] at e1; simp at e1
      rw [e0] at e1
      rw [← h.len, e0] at e2
      simp at e1 e2
      subst e1 e2
      exact r
theorem HS.last (h : HS G μ S H) {p : Addr} : (μ ++ [p])[S.length]? = some p := by
  rw [← h.len, List.getElem?_append_right (Nat.le_refl _)]
  simp
theorem HS.put (h : HS G μ S H) {n : Nat} {p : Addr} {u : HO} {o : O} (e : μ[n]? = some p) (r : RO G μ (upd H p u) p o) : HS G μ (S.set n o) (upd H p u) := by
  have hn : n < μ.length := (List.getElem?_eq_some_iff.mp e).1
  have hm : p ∈ μ := List.mem_of_getElem? e
  refine ⟨by simp [h.len], h.nd, fun m a o' e1 e2 => ?_⟩
  by_cases hmn : n = m
  · subst hmn
    rw [e] at e1
    cases e1
    rw [List.getElem?_set_self (by rw [← h.len]; exact hn)] at e2
    cases e2
    exact r
  · rw [List.getElem?_set_ne hmn] at e2
    have r' := h.at_ m a o' e1 e2
    refine r'.keep (Gr.write hm) (upd_ne fun q => hmn ?_)
    subst q
    exact nd_ix h.nd e e1
end

section
variable {G : Gc} {μ μ1 : List Addr} {S : Sto} {H H1 : Hp} {p : Addr} {xs ys : List V}
theorem Gi.aside (hp : H p = some (.lst xs)) : Gi μ H μ (upd H p (.lst ys)) := by
  refine ⟨⟨[], by simp, by simp⟩, fun a o n h i => ?_⟩
  rw [upd_ne]
  · exact h
  · rintro rfl
    rw [hp] at h
    cases h
    cases i
theorem HS.aside (h : HS G μ S H) (hp : H p = some (.lst xs)) (n : p ∉ μ) : HS G μ S (upd H p (.lst ys)) :=
  ⟨h.len, h.nd, fun m a o e1 e2 => (h.at_ m a o e1 e2).keepI (Gi.aside hp) (upd_ne fun q => n (by rw [← q]; exact List.mem_of_getElem? e1))⟩
theorem Gr.aside (g : Gr μ1 H1 μ H) (h1 : H1 p = none) {o : HO} : Gr μ1 H1 μ (upd H p o) := by
  refine ⟨g.pre, fun a u n e => ?_, fun a e => ?_⟩
  · rw [upd_ne (ne_of_none e h1)]
    exact g.keep a u n e
  · by_cases q : a = p
    · rw [q]
      exact h1
    · rw [upd_ne q] at e
      exact g.live a e
theorem Gi.join (hp : H p = some (.lst xs)) : Gi μ H (μ ++ [p]) H :=
  ⟨⟨[p], rfl, fun a m o e => by rw [List.mem_singleton.mp m, hp] at e; cases e; rfl⟩, fun _ _ _ h _ => h⟩
theorem Gr.join (g : Gr μ1 H1 μ H) (h1 : H1 p = none) : Gr μ1 H1 (μ ++ [p]) H := by
  obtain ⟨ν, e, hn⟩ := g.pre
  refine ⟨⟨ν ++ [p], by rw [e, List.append_assoc], fun a m => ?_⟩, g.keep, g.live⟩
  rcases List.mem_append.mp m with m | m
  · exact hn a m
  · rw [List.mem_singleton.mp m]
    exact h1
theorem HS.join (h : HS G μ S H) (hp : H p = some (.lst xs)) (n : p ∉ μ) {ds : List D} (r : RVs G.K μ H xs ds) : HS G (μ ++ [p]) (S ++ [.lst ds]) H := by
  refine ⟨by simp [h.len], ?_, fun m a o' e1 e2 => ?_⟩
  · rw [List.nodup_append]
    refine ⟨h.nd, by simp, fun a m b m' => ?_⟩
    rw [List.mem_singleton.mp m']
    rintro rfl
    exact n m
  · by_cases hn : m < μ.length
    · rw [List.getElem?_append_left hn] at e1
      rw [List.getElem?_append_left (by rw [← h.len]; exact hn)] at e2
      exact (h.at_ m a o' e1 e2).keepI (Gi.join hp) rfl
    · have hn : μ.length ≤ m := Nat.le_of_not_lt hn
      rw [List.getElem?_append_right hn] at e1
      rw [List.getElem?_append_right (by rw [← h.len]; exact hn)] at e2
      have e0 : m - μ.length = 0 := by
        cases q : m - μ.length with
        | zero => rfl
        | succ m => rw [q] at e1; simp at e1
      rw [e0] at e1
      rw [← h.len, e0] at e2
      simp at e1 e2
      subst e1 e2
      exact ⟨xs, hp, r.monoI (Gi.join hp)⟩
end

abbrev Env := List (Option D)
def SR (K : PySem.W.Frag) (μ : List Addr) (H : Hp) (σ : L2.St) (ε : Env) : Prop :=
  σ.length = ε.length ∧ ∀ (i : Nat) (d : D), ε[i]? = some (some d) → ∃ v, σ[i]? = some (some v) ∧ RV K μ H v d
section
variable {K : PySem.W.Frag} {μ μ' : List Addr} {H H' : Hp} {σ : L2.St} {ε : Env}
theorem SR.monoI (g : Gi μ H μ' H') (h : SR K μ H σ ε) : SR K μ' H' σ ε :=
  ⟨h.1, fun i d e => let ⟨v, e1, r⟩ := h.2 i d e; ⟨v, e1, r.monoI g⟩⟩
theorem SR.mono (g : Gr μ H μ' H') (h : SR K μ H σ ε) : SR K μ' H' σ ε := h.monoI g.i
theorem SR.set (h : SR K μ H σ ε) {v : V} {d : D} (r : RV K μ H v d) (i : Nat) : SR K μ H (σ.set i (some v)) (ε.set i (some d)) := by
  refine ⟨by simp [h.1], fun j e q => ?_⟩
  by_cases hi : i < ε.length
  · by_cases hj : i = j
    · subst hj
      rw [List.getElem?_set_self hi] at q
      cases q
      exact ⟨v, List.getElem?_set_self (by rw [h.1]; exact hi), r⟩
    · rw [List.getElem?_set_ne hj] at q
      obtain ⟨u, e1, r1⟩ := h.2 j e q
      exact ⟨u, by rw [List.getElem?_set_ne hj]; exact e1, r1⟩
  · have h1 : ε.set i (some d) = ε := List.set_eq_of_length_le (Nat.le_of_not_lt hi)
    have h2 : σ.set i (some v) = σ := List.set_eq_of_length_le (by rw [h.1]; exact Nat.le_of_not_lt hi)
    rw [h1] at q
    rw [h2]
    exact h.2 j e q
end
end DL

set_option Elab.async false
set_option linter.all false
set_option maxRecDepth 100000
set_option maxHeartbeats 1000000
namespace DL
open PySem PySem.Spec L2
abbrev NewT (H : Hp) (xs : List V) (Q : VK) : Prop := ∀ (p : Addr) (o : Obj), H p = none → o.dict = none → Q (.ref p) (upd H p (.frz o (.tup xs)))
def tupO (its : Array Value) : Obj := { cls := .type "tuple", data := .seq its }
theorem ok_tupO {P : Program} {w : World} {H : Hp} {h : Heap} {a : Addr} {xs : List V} {its : List Value} (r : Vals xs its) (z : xs.length ≤ sizeLine) (e : h.get? a = some (tupO its.toArray)) : ObjOk P w H h a (.frz (tupO its.toArray) (.tup xs)) :=
  ⟨e, z, its, r, ⟨_, e, rfl, _, rfl⟩⟩
section
variable {X : Cx}
theorem new_tupO {pins : List (Addr × Obj)} {s : Shared} {σ : L2.St} {H : Hp} {xs : List V} {its : List Value} {Q : VK} {t' : Nat} (I : Inv X pins σ H s) (r : Vals xs its) (z : xs.length ≤ sizeLine) (q : NewT H xs Q) :
    EP X pins σ Q (.ref s.heap.objs.size) { s with heap := s.heap.push (tupO its.toArray), toks := t' } :=
  ⟨.ref s.heap.objs.size, upd H s.heap.objs.size (.frz (tupO its.toArray) (.tup xs)), I.laid (t' := t') (fun b ob e => Heap.get?_push_of_some _ e) (Nat.le_refl _) (ok_tupO r z (Heap.get?_push_size _ rfl)), rfl, q _ _ (I.hok.fresh (Nat.le_refl _)) rfl⟩
def tTupB (t : TA) : TE := fun σ H Q => t σ H fun xs H1 => xs.length ≤ sizeLine ∧ NewT H1 xs Q
theorem pe_tupB {es : List Expr} {t : TA} {k : Nat} {pos : Pos} (h : PA X es t) : PE X (.Tuple es k pos) (tTupB t) :=
  ⟨fun pins s σ H Q I hq => wpAny_Tuple_spliced (thn (h.run pos pins s σ H _ I hq) fun us s1 ⟨xs, H1, I1, r, z, q⟩ => ⟨by rw [← r.length]; exact z, new_tupO (t' := s1.toks) I1 r z q⟩)⟩
def rCatB (K : PySem.W.Frag) : R2 := fun x y H Q => ∃ a b xs ys, x = .ref a ∧ y = .ref b ∧ SqT K H a xs ∧ SqT K H b ys ∧ xs.length + ys.length ≤ sizeLine ∧
  (xs = [] → Q (.ref b) H) ∧ (xs ≠ [] → ys = [] → Q (.ref a) H) ∧ (xs ≠ [] → ys ≠ [] → NewT H (xs ++ ys) Q)
theorem op_catB : OpR X (binaryOp .Add) (rCatB X.K) := by
  intro pins s σ H x y v u Q I rx ry ⟨a, b, xs, ys, e1, e2, ha, hb, hz, q0, q1, q2⟩
  subst e1 e2
  by_cases hx : xs = []
  · exact op_catA pins s σ H _ _ v u Q I rx ry ⟨a, b, xs, ys, rfl, rfl, ha, hb, hz, q0, q1, fun n => absurd hx n⟩
  by_cases hy : ys = []
  · exact op_catA pins s σ H _ _ v u Q I rx ry ⟨a, b, xs, ys, rfl, rfl, ha, hb, hz, q0, q1, fun _ n => absurd hy n⟩
  cases rx
  cases ry
  obtain ⟨us, r1, t1, _⟩ := I.tuple ha
  obtain ⟨ws, r2, t2, _⟩ := I.tuple hb
  exact HT.cat_tup t1 t2 (fun z => hx (r1.nil_iff.mp z)) (fun z => absurd (r2.nil_iff.mp z) hy) (fun _ => new_tupO (t' := s.toks) I (r1.append r2) (by rw [List.length_append]; exact hz) (q2 hx hy)) (by rw [← r1.length, ← r2.length]; exact hz)
def rSlB (K : PySem.W.Frag) : V → Option Int → Option Int → Hp → VK → Prop := fun x lo hi H Q => ∃ a xs, x = .ref a ∧ SqT K H a xs ∧
  (HT.sIx xs.length 0 lo = 0 ∧ HT.sIx xs.length xs.length hi = xs.length → Q (.ref a) H) ∧ (¬ (HT.sIx xs.length 0 lo = 0 ∧ HT.sIx xs.length xs.length hi = xs.length) → NewT H (cutV xs lo hi) Q)
theorem sl_tupB : SlR X (rSlB X.K) := by
  intro pins s σ H x v vl vu lo hi sl Q I rx hs pl pu ⟨a, xs, e, hx, q1, q2⟩
  subst e
  by_cases hw : HT.sIx xs.length 0 lo = 0 ∧ HT.sIx xs.length xs.length hi = xs.length
  · exact sl_tupA pins s σ H _ v vl vu lo hi sl Q I rx hs pl pu ⟨a, xs, rfl, hx, q1, fun n => absurd hw n⟩
  · cases rx
    obtain ⟨us, r, t, hz⟩ := I.tuple hx
    have len : us.toArray.size = xs.length := by rw [List.size_toArray]; exact r.length.symm
    refine ⟨"tuple", _, PyProof.Rows.slot_tuple_getitem.lookup, t.typeIs, HT.getItem_tuple_cut t hs pl pu (by rw [len]; exact hw) ?_ (by rw [len]; exact hz)⟩
    rw [len]
    exact new_tupO (t' := s.toks) I ((r.drop (HT.sIx xs.length 0 lo)).take (HT.sIx xs.length xs.length hi - HT.sIx xs.length 0 lo)) (Nat.le_trans (cutV_length xs lo hi) hz) (q2 hw)
theorem call_tupleB : CallR X (.type "tuple") (fun xs H Q => ∃ p ys, xs = [.ref p] ∧ ((SqL X.K H p ys ∧ NewT H ys Q) ∨ (SqT X.K H p ys ∧ Q (.ref p) H))) := by
  intro pins s σ H xs us Q I r ⟨p, ys, e, h⟩
  rcases h with ⟨hq, q⟩ | h
  · subst e
    obtain ⟨u, rfl, rx⟩ := vals1 r
    cases rx
    obtain ⟨its, r', pl, hz⟩ := I.list hq
    have len := r'.length
    exact call_tuple_list pl.isList (fun h' kp => new_tupO (s := { s with heap := h' }) (t' := s.toks) (I.kept (t' := s.toks) kp) r' hz q) (by simp only [List.size_toArray] <;> omega)
  · exact call_tuple_of pins s σ H xs us Q I r ⟨p, ys, e, .inr h⟩
def rRepB (K : PySem.W.Frag) : R2 := fun x y H Q => ∃ l k xs, x = .ref l ∧ y = .int k ∧ SqT K H l xs ∧ xs ≠ [] ∧ 2 ≤ k ∧ k ≤ 1000 ∧ xs.length ≤ 1000 ∧ NewT H (List.replicate k.toNat xs).flatten Q
theorem op_repB : OpR X (binaryOp .Mult) (rRepB X.K) := by
  intro pins s σ H x y v u Q I rx ry ⟨l, k, xs, e1, e2, hT, ne, k2, k1000, few, q⟩
  subst e1 e2
  cases rx
  obtain ⟨tk, rfl⟩ := ry
  obtain ⟨us, r, ⟨⟨cls, dd, data, sl⟩, at_, hc, n, hd⟩, _⟩ := I.tuple hT
  obtain rfl : cls = .type "tuple" := hc
  obtain rfl : data = .seq us.toArray n := hd
  have len : us.toArray.size = xs.length := by rw [List.size_toArray, ← r.length]
  have pos : 0 < xs.length := List.length_pos_iff.mpr ne
  have emp : us.toArray.isEmpty = false := by
    rw [Array.isEmpty_eq_false_iff_exists_mem]
    have : 0 < us.toArray.size := by omega
    exact ⟨us.toArray[0], Array.getElem_mem this⟩
  have prod : ((us.toArray.size : Nat) : Int) * k ≤ 1000000 := by
    rw [len]
    have : ((xs.length : Nat) : Int) * k ≤ 1000 * k := Int.mul_le_mul_of_nonneg_right (by omega) (by omega)
    omega
  have prodN : k.toNat * xs.length ≤ 1000 * 1000 := Nat.mul_le_mul (by omega) few
  have flat : ((List.replicate k.toNat us).flatten).length ≤ sizeLine := by
    rw [PyProof.Rows.lm_len_rep_flat, ← r.length, sizeLine_eq]
    omega
  have g0 : (decide (k < -(2 ^ 63)) || decide (k ≥ 2 ^ 63)) = false := by rw [Bool.or_eq_false_iff, decide_eq_false_iff_not, decide_eq_false_iff_not]; omega
  have g1 : (us.toArray.isEmpty || k == 1) = false := by rw [emp, Bool.false_or, beq_eq_false_iff_ne]; omega
  have g2 : (decide (k ≤ 0) || us.toArray.isEmpty) = false := by rw [emp, Bool.or_false, decide_eq_false_iff_not]; omega
  have g3 : Builtin.Tuple.tupleTooMany (((us.toArray.size : Nat) : Int) * k) = false := by
    unfold Builtin.Tuple.tupleTooMany
    rw [sizeLine_eq, decide_eq_false_iff_not]
    omega
  refine wpAny_binaryOp_repeat_ref (T := "tuple") (U := "int") (by decide) ⟨_, at_, rfl⟩ (fun z => typeIs_int z k tk) noFill_tuple_mul F.fills_int_mul F.slot_int_rmul repeat_tuple F.slot_int_index.lookup
    (call_meets F.slot_int_rmul (typeIs_int s k tk) F.entry_int_rmul (F.args_int_rmul_2 _ _) (int_rmul_tuple k tk l us.toArray n dd sl)
      ⟨at_, rfl, ⟨_, at_, rfl⟩, call_meets F.slot_tuple_mul ⟨_, at_, rfl⟩ F.entry_tuple_mul (F.args_tuple_mul_2 _ _)
        (tuple_mulW l us.toArray n dd sl k tk g0 g1 g2 (by omega) g3 (by rw [size_rep, List.size_toArray]; exact flat)) ⟨at_, ?_⟩⟩)
  rw [size_rep]
  exact new_tupO (t' := s.toks) I (r.rep k.toNat) (by rw [PyProof.Rows.lm_len_rep_flat, sizeLine_eq]; omega) q
end
end DL

set_option Elab.async false
set_option linter.all false
set_option maxRecDepth 100000
set_option maxHeartbeats 1000000
namespace DL
open PySem L2

structure Gt where
  cA : Str → Option Addr
  xA : Str → Option Addr
abbrev gx (X : Cx) (T : Gt) : Gc := ⟨X.K, T.cA, T.xA⟩

def wR {α β : Type} (G : Gc) (W : WX) (Rl : List Addr → Hp → β → α → Prop) (r : R α) (σ : L2.St) (μ : List Addr) (H : Hp) (Q : β → Hp → Prop) : Prop :=
  match r with
  | .ok d S' => ∀ v μ' H', Gr μ H μ' H' → HS G μ' S' H' → Rl μ' H' v d → Q v H'
  | .exc c S' => ∀ C μ' H', G.xA c = some C → Gr μ H μ' H' → HS G μ' S' H' → W (.ref C) none σ H'
  | .bad => False
section
variable {α β γ δ : Type} {G : Gc} {W : WX} {Rl : List Addr → Hp → β → α → Prop} {Rl' : List Addr → Hp → δ → γ → Prop} {σ : L2.St} {ε : Env} {μ μ1 : List Addr} {H H1 : Hp} {S : Sto}
theorem wR.up {r : R α} {Q : β → Hp → Prop} (g : Gr μ H μ1 H1) (h : wR G W Rl r σ μ H Q) : wR G W Rl r σ μ1 H1 Q := by
  cases r with
  | ok d S' => exact fun v μ' H' g' hs rl => h v μ' H' (g.trans g') hs rl
  | exc c S' => exact fun C μ' H' e g' hs => h C μ' H' e (g.trans g') hs
  | bad => exact h
theorem wR.imp {r : R α} {Q Q' : β → Hp → Prop} (h : wR G W Rl r σ μ H Q) (q : ∀ v H', Q v H' → Q' v H') : wR G W Rl r σ μ H Q' := by
  cases r with
  | ok d S' => exact fun v μ' H' g' hs rl => q _ _ (h v μ' H' g' hs rl)
  | exc c S' => exact h
  | bad => exact h
theorem wR.bind {r : R α} {k : α → Sto → R γ} {Q : δ → Hp → Prop} (sr : SR G.K μ H σ ε) (h : wR G W Rl' (r.bind k) σ μ H Q) :
    wR G W Rl r σ μ H fun v H1 => ∃ d μ1 S1, Gr μ H μ1 H1 ∧ HS G μ1 S1 H1 ∧ SR G.K μ1 H1 σ ε ∧ Rl μ1 H1 v d ∧ wR G W Rl' (k d S1) σ μ1 H1 Q := by
  cases r with
  | ok d S' => exact fun v μ' H' g hs rl => ⟨d, μ', S', g, hs, sr.mono g, rl, wR.up g h⟩
  | exc c S' => exact h
  | bad => exact h
theorem wR.here {d : α} {v : β} {Q : β → Hp → Prop} (hs : HS G μ S H) (h : wR G W Rl (.ok d S) σ μ H Q) (r : Rl μ H v d) : Q v H := h v μ H Gr.refl hs r
end

def tR {α β : Type} (G : Gc) (W : WX) (Rl : List Addr → Hp → β → α → Prop) (den : Env → Sto → R α) : L2.St → Hp → (β → Hp → Prop) → Prop := fun σ H Q =>
  ∃ ε μ S, SR G.K μ H σ ε ∧ HS G μ S H ∧ wR G W Rl (den ε S) σ μ H Q
def rlV (G : Gc) : List Addr → Hp → V → D → Prop := fun μ H v d => RV G.K μ H v d
def rlB : List Addr → Hp → Bool → Bool → Prop := fun _ _ v d => v = d
def rlA (G : Gc) : List Addr → Hp → List V → List D → Prop := fun μ H v d => RVs G.K μ H v d
def rlO : List Addr → Hp → Option Int → Option Int → Prop := fun _ _ v d => v = d
abbrev Den := Env → Sto → R D
abbrev DenB := Env → Sto → R Bool
abbrev DenA := Env → Sto → R (List D)
abbrev DenO := Env → Sto → R (Option Int)
abbrev tD (G : Gc) (W : WX) (den : Den) : TE := tR G W (rlV G) den
abbrev tDB (G : Gc) (W : WX) (den : DenB) : TT := tR G W rlB den
abbrev tDA (G : Gc) (W : WX) (den : DenA) : TA := tR G W (rlA G) den
abbrev tDO (G : Gc) (W : WX) (den : DenO) : TO := tR G W rlO den
theorem _root_.L2.PE.imp {X : Cx} {e : Expr} {t t' : TE} (h : PE X e t) (q : ∀ σ H Q, t' σ H Q → t σ H Q) : PE X e t' := ⟨fun pins s σ H Q I z => h.run pins s σ H Q I (q _ _ _ z)⟩
theorem _root_.L2.PT.imp {X : Cx} {e : Expr} {t t' : TT} (h : PT X e t) (q : ∀ σ H Q, t' σ H Q → t σ H Q) : PT X e t' := ⟨fun pins s σ H Q I z => h.run pins s σ H Q I (q _ _ _ z)⟩
theorem _root_.L2.PA.imp {X : Cx} {e : List Expr} {t t' : TA} (h : PA X e t) (q : ∀ σ H Q, t' σ H Q → t σ H Q) : PA X e t' := ⟨fun pos pins s σ H Q I z => h.run pos pins s σ H Q I (q _ _ _ z)⟩
theorem _root_.L2.PW.imp {X : Cx} {e : Expr} {t t' : TT} (h : PW X e t) (q : ∀ σ H Q, t' σ H Q → t σ H Q) : PW X e t' := ⟨fun whole pins s σ H Q I z => h.run whole pins s σ H Q I (q _ _ _ z)⟩

section
variable {X : Cx} {T : Gt} {W : WX}
def dC (d : D) : Den := fun _ S => .ok d S
def dVar (i : Nat) : Den := fun ε S => match ε[i]? with
  | some (some d) => .ok d S
  | _ => .bad
theorem pd_int {i : Int} {j : Nat} {pos : Pos} : PE X (.Constant (.int i) j pos) (tD (gx X T) W (dC (.int i))) :=
  pe_int.imp fun _ _ _ ⟨_, _, _, _, hs, h⟩ => wR.here hs h (.int i)
theorem pd_bl {b : Bool} {j : Nat} {pos : Pos} : PE X (.Constant (.bool b) j pos) (tD (gx X T) W (dC (.bl b))) :=
  pe_bl.imp fun _ _ _ ⟨_, _, _, _, hs, h⟩ => wR.here hs h (.bl b)
theorem pd_non {j : Nat} {pos : Pos} : PE X (.Constant .none j pos) (tD (gx X T) W (dC .non)) :=
  pe_non.imp fun _ _ _ ⟨_, _, _, _, hs, h⟩ => wR.here hs h .non
theorem pd_str {x : Str} {j : Nat} {pos : Pos} : PE X (.Constant (.str x) j pos) (tD (gx X T) W (dC (.str x))) :=
  pe_str.imp fun _ _ _ ⟨_, _, _, _, hs, h⟩ => wR.here hs h (.str x)
theorem pd_var (i : Nat) {x : Str} {pos : Pos} (hN : X.N[i]? = some x := by rfl) (hv : Vis X.env.scope x := by first | exact Or.inl rfl | exact Or.inr (Or.inl rfl) | exact Or.inr (Or.inr rfl)) (hd : (x == ("__debug__" : Str)) = false := by decide)
    (hcd : (x == ("__classdict__" : Str)) = false := by decide) : PE X (.Name x pos) (tD (gx X T) W (dVar i)) :=
  (pe_var hN hv hd hcd).imp fun σ H Q ⟨ε, μ, S, sr, hs, h⟩ => by
    unfold dVar at h
    cases e : ε[i]? with
    | none => rw [e] at h; exact h.elim
    | some o =>
      cases o with
      | none => rw [e] at h; exact h.elim
      | some d =>
        rw [e] at h
        obtain ⟨v, e1, r⟩ := sr.2 i d e
        exact ⟨v, e1, wR.here hs h r⟩
theorem pd_gstr {x : Str} {i : Str} {t : Tok} {pos : Pos} (hg : Gl X x) (hm : X.mg x = some (.str i t)) (hdb : (x == ("__debug__" : Str)) = false := by decide) : PE X (.Name x pos) (tD (gx X T) W (dC (.str i))) :=
  (pe_glob (v := .str i) hg hm ⟨t, rfl⟩ hdb).imp fun _ _ _ ⟨_, _, _, _, hs, h⟩ => wR.here hs h (.str i)

def dNil : DenA := fun _ S => .ok [] S
def dCons (a : Den) (r : DenA) : DenA := fun ε S => (a ε S).bind fun d S => (r ε S).bind fun ds S => .ok (d :: ds) S
theorem pda_nil : PA X [] (tDA (gx X T) W dNil) := pa_nil.imp fun _ _ _ ⟨_, _, _, _, hs, h⟩ => wR.here hs h .nil
theorem pda_cons {e : Expr} {es : List Expr} {a : Den} {r : DenA} (ha : PE X e (tD (gx X T) W a)) (hr : PA X es (tDA (gx X T) W r)) (he : starEach (e :: es) X.env = (false, eval e X.env) :: starEach es X.env := by rfl) :
    PA X (e :: es) (tDA (gx X T) W (dCons a r)) :=
  (pa_cons ha hr he).imp fun σ H Q ⟨ε, μ, S, sr, hs, h⟩ =>
    ⟨ε, μ, S, sr, hs, (wR.bind sr h).imp fun v H1 ⟨d, μ1, S1, g1, hs1, sr1, r1, h1⟩ =>
      ⟨ε, μ1, S1, sr1, hs1, (wR.bind (Rl := rlA (gx X T)) sr1 h1).imp fun vs H2 ⟨ds, μ2, S2, g2, hs2, sr2, r2, h2⟩ => wR.here hs2 h2 (.cons (RV.mono g2 r1) r2)⟩⟩
def big : Nat := 1000000
theorem big_ok {n : Nat} (h : n ≤ big) : n ≤ sizeLine := Nat.le_trans h (by decide)
theorem big_lt {n : Nat} (h : n ≤ big) : n < sizeLine := Nat.lt_of_le_of_lt h (by decide)
def mkTup (ds : List D) (S : Sto) : R D := if ds.length ≤ big then .ok (.tup ds) S else .bad
def mkLst (ds : List D) (S : Sto) : R D := if ds.length ≤ big then .ok (.ref S.length) (S ++ [.lst ds]) else .bad
theorem newT_of {G : Gc} {σ : L2.St} {μ : List Addr} {S : Sto} {H : Hp} {xs : List V} {ds : List D} {Q : VK} (hs : HS G μ S H) (r : RVs G.K μ H xs ds) (h : wR G W (rlV G) (.ok (.tup ds) S) σ μ H Q) : NewT H xs Q :=
  fun p o hp hd => h _ _ _ (Gr.new hp) (hs.beside hp) (.tup ⟨hs.fresh hp, .inr ⟨o, upd_same⟩⟩ (fun _ => ⟨o, upd_same, hd⟩) (r.mono (Gr.new hp)))
theorem new_tup {G : Gc} {σ : L2.St} {μ : List Addr} {S : Sto} {H : Hp} {xs : List V} {ds : List D} {Q : VK} (hs : HS G μ S H) (r : RVs G.K μ H xs ds) (h : wR G W (rlV G) (mkTup ds S) σ μ H Q) :
    xs.length ≤ sizeLine ∧ NewT H xs Q := by
  unfold mkTup at h
  split at h
  · exact ⟨by rw [r.length]; exact big_ok ‹_›, newT_of hs r h⟩
  · exact h.elim
theorem new_lst {G : Gc} {σ : L2.St} {μ : List Addr} {S : Sto} {H : Hp} {xs : List V} {ds : List D} {Q : VK} (hs : HS G μ S H) (r : RVs G.K μ H xs ds) (h : wR G W (rlV G) (mkLst ds S) σ μ H Q) :
    xs.length ≤ sizeLine ∧ ∀ p, H p = none → Q (.ref p) (upd H p (.lst xs)) := by
  unfold mkLst at h
  split at h
  · refine ⟨by rw [r.length]; exact big_ok ‹_›, fun p hp => h _ _ _ (Gr.obj hp) (hs.grow hp ⟨xs, upd_same, r.mono (Gr.obj hp)⟩) ?_⟩
    exact .ref hs.last
  · exact h.elim
def dTup (a : DenA) : Den := fun ε S => (a ε S).bind mkTup
def dLst (a : DenA) : Den := fun ε S => (a ε S).bind mkLst
theorem pd_tup {es : List Expr} {k : Nat} {pos : Pos} {a : DenA} (ha : PA X es (tDA (gx X T) W a)) : PE X (.Tuple es k pos) (tD (gx X T) W (dTup a)) :=
  (pe_tupB ha).imp fun σ H Q ⟨ε, μ, S, sr, hs, h⟩ => ⟨ε, μ, S, sr, hs, (wR.bind (Rl := rlA (gx X T)) sr h).imp fun vs H1 ⟨ds, μ1, S1, g1, hs1, sr1, r1, h1⟩ => new_tup hs1 r1 h1⟩
theorem pd_lst {es : List Expr} {pos : Pos} {a : DenA} (ha : PA X es (tDA (gx X T) W a)) : PE X (.List es pos) (tD (gx X T) W (dLst a)) :=
  (pe_lst ha).imp fun σ H Q ⟨ε, μ, S, sr, hs, h⟩ => ⟨ε, μ, S, sr, hs, (wR.bind (Rl := rlA (gx X T)) sr h).imp fun vs H1 ⟨ds, μ1, S1, g1, hs1, sr1, r1, h1⟩ => new_lst hs1 r1 h1⟩

abbrev Op := D → D → Sto → R D
def OpD (X : Cx) (T : Gt) (f : Value → Value → Sem Value) (o : Op) : Prop :=
  ∃ r : R2, OpR X f r ∧ ∀ (W : WX) σ μ S H x y d e Q, HS (gx X T) μ S H → RV X.K μ H x d → RV X.K μ H y e → wR (gx X T) W (rlV (gx X T)) (o d e S) σ μ H Q → r x y H Q
def dBin (o : Op) (a b : Den) : Den := fun ε S => (a ε S).bind fun d S => (b ε S).bind fun e S => o d e S
theorem bin_to {o : Op} {r : R2} {a b : Den} (ho : ∀ (W : WX) σ μ S H x y d e Q, HS (gx X T) μ S H → RV X.K μ H x d → RV X.K μ H y e → wR (gx X T) W (rlV (gx X T)) (o d e S) σ μ H Q → r x y H Q) :
    ∀ σ H Q, tD (gx X T) W (dBin o a b) σ H Q → tOp r (tD (gx X T) W a) (tD (gx X T) W b) σ H Q := fun σ H Q ⟨ε, μ, S, sr, hs, h⟩ =>
  ⟨ε, μ, S, sr, hs, (wR.bind (Rl := rlV (gx X T)) sr h).imp fun v H1 ⟨d, μ1, S1, g1, hs1, sr1, r1, h1⟩ =>
    ⟨ε, μ1, S1, sr1, hs1, (wR.bind (Rl := rlV (gx X T)) sr1 h1).imp fun w H2 ⟨e, μ2, S2, g2, hs2, sr2, r2, h2⟩ => ho W σ μ2 S2 H2 v w d e Q hs2 (RV.mono g2 r1) r2 h2⟩⟩
theorem pd_bin {op : Operator} {o : Op} {a b : Expr} {da db : Den} {pos : Pos} (ho : OpD X T (binaryOp op) o) (ha : PE X a (tD (gx X T) W da)) (hb : PE X b (tD (gx X T) W db)) : PE X (.BinOp a op b pos) (tD (gx X T) W (dBin o da db)) := by
  obtain ⟨r, hr, q⟩ := ho
  exact (pe_op hr ha hb).imp (bin_to q)
theorem pd_cmp {op : CmpOp} {o : Op} {a b : Expr} {da db : Den} {pos : Pos} (ho : OpD X T (compareOp op) o) (ha : PE X a (tD (gx X T) W da)) (hb : PE X b (tD (gx X T) W db)) (hm : behindInMarks op b = false) : PE X (.Compare a [op] [b] pos) (tD (gx X T) W (dBin o da db)) := by
  obtain ⟨r, hr, q⟩ := ho
  exact (pe_cmpR hr ha hb hm).imp (bin_to q)
def dTest (a : Den) : DenB := fun ε S => (a ε S).bind fun d S => match d with
  | .bl b => .ok b S
  | _ => .bad
theorem test_to {t : TE} {a : Den} (h0 : ∀ σ H Q, tD (gx X T) W a σ H Q → t σ H Q) : ∀ σ H Q, tDB (gx X T) W (dTest a) σ H Q → tTest t σ H Q := fun σ H Q ⟨ε, μ, S, sr, hs, h⟩ =>
  h0 _ _ _ ⟨ε, μ, S, sr, hs, (wR.bind (Rl := rlV (gx X T)) sr h).imp fun v H1 ⟨d, μ1, S1, g1, hs1, sr1, r1, h1⟩ => by
    have r1 : RV X.K μ1 H1 v d := r1
    cases r1 with
    | bl b => exact ⟨b, rfl, wR.here hs1 h1 rfl⟩
    | _ => exact h1.elim⟩
theorem ptd_cmp {op : CmpOp} {o : Op} {a b : Expr} {da db : Den} {pos : Pos} (ho : OpD X T (compareOp op) o) (ha : PE X a (tD (gx X T) W da)) (hb : PE X b (tD (gx X T) W db)) (hm : behindInMarks op b = false) : PT X (.Compare a [op] [b] pos) (tDB (gx X T) W (dTest (dBin o da db))) := by
  obtain ⟨r, hr, q⟩ := ho
  exact (pt_cmpR hr ha hb hm).imp (test_to (bin_to q))
theorem ptd_val {a : Expr} {da : Den} (ha : PE X a (tD (gx X T) W da)) (hw : ∀ whole, isTrue a X.env whole = (do let v ← whole; standAt a.pos; holding [v] (truthy v)) := by intro _; rfl) : PT X a (tDB (gx X T) W (dTest da)) :=
  (pt_val ha hw).imp (test_to (t := tD (gx X T) W da) fun _ _ _ h => h)

def oAdd : Op := fun d e S => match d, e with
  | .int i, .int j => .ok (.int (i + j)) S
  | .str x, .str y => if x.length + y.length ≤ big then .ok (.str (x ++ y)) S else .bad
  | .tup xs, .tup ys => if xs.length + ys.length ≤ big then .ok (.tup (xs ++ ys)) S else .bad
  | .ref n, .ref m => match S[n]?, S[m]? with
    | some (.lst xs), some (.lst ys) => mkLst (xs ++ ys) S
    | _, _ => .bad
  | _, _ => .bad
theorem HS.lst {G : Gc} {μ : List Addr} {S : Sto} {H : Hp} {v : V} {n : Nat} {ds : List D} (hs : HS G μ S H) (r : RV G.K μ H v (.ref n)) (e : S[n]? = some (.lst ds)) : ∃ a xs, v = .ref a ∧ μ[n]? = some a ∧ H a = some (.lst xs) ∧ RVs G.K μ H xs ds := by
  cases r with
  | ref q =>
    obtain ⟨o, e1, ro⟩ := hs.there q
    rw [e] at e1
    cases e1
    obtain ⟨xs, h1, h2⟩ := ro
    exact ⟨_, xs, rfl, q, h1, h2⟩
theorem HS.dct {G : Gc} {μ : List Addr} {S : Sto} {H : Hp} {v : V} {n : Nat} {ds : List (Key × D)} (hs : HS G μ S H) (r : RV G.K μ H v (.ref n)) (e : S[n]? = some (.dct ds)) : ∃ a xs, v = .ref a ∧ μ[n]? = some a ∧ H a = some (.dK xs) ∧ RKs G.K μ H xs ds := by
  cases r with
  | ref q =>
    obtain ⟨o, e1, ro⟩ := hs.there q
    rw [e] at e1
    cases e1
    obtain ⟨xs, h1, h2⟩ := ro
    exact ⟨_, xs, rfl, q, h1, h2⟩
theorem HS.ins {G : Gc} {μ : List Addr} {S : Sto} {H : Hp} {v : V} {n : Nat} {c : Str} {fs : List (Str × D)} (hs : HS G μ S H) (r : RV G.K μ H v (.ref n)) (e : S[n]? = some (.ins c fs)) :
    ∃ a C dx ws, v = .ref a ∧ μ[n]? = some a ∧ G.cA c = some C ∧ H a = some (.ins C dx ws) ∧ RKs G.K μ H ws fs := by
  cases r with
  | ref q =>
    obtain ⟨o, e1, ro⟩ := hs.there q
    rw [e] at e1
    cases e1
    obtain ⟨C, dx, ws, h1, h2, h3⟩ := ro
    exact ⟨_, C, dx, ws, rfl, q, h1, h2, h3⟩
theorem od_add : OpD X T (binaryOp .Add) oAdd := by
  refine ⟨_, op_add.or (op_add_str.or (op_catB.or op_cat)), fun W σ μ S H x y d e Q hs rx ry h => ?_⟩
  unfold oAdd at h
  split at h
  · cases rx
    cases ry
    exact .inl ⟨_, _, rfl, rfl, wR.here hs h (.int _)⟩
  · split at h
    · cases rx
      cases ry
      exact .inr (.inl ⟨_, _, rfl, rfl, big_ok ‹_›, wR.here hs h (.str _)⟩)
    · exact h.elim
  · split at h
    · cases rx with
      | tup tx bx rx =>
        cases ry with
        | tup ty bY ry =>
          refine .inr (.inr (.inl ⟨_, _, _, _, rfl, rfl, tx.sq, ty.sq, by rw [rx.length, ry.length]; exact big_ok ‹_›, fun z => ?_, fun _ z => ?_, fun _ _ => ?_⟩))
          · subst z
            cases rx
            exact wR.here hs h (.tup ty bY ry)
          · subst z
            cases ry
            rw [List.append_nil] at h
            exact wR.here hs h (.tup tx bx rx)
          · exact newT_of hs (rx.append ry) h
    · exact h.elim
  · split at h
    · obtain ⟨a, xs, rfl, ea, ha, ra⟩ := hs.lst rx ‹_›
      obtain ⟨b, ys, rfl, eb, hb, rb⟩ := hs.lst ry ‹_›
      have z := new_lst hs (ra.append rb) h
      rw [List.length_append] at z
      exact .inr (.inr (.inr ⟨_, _, _, _, rfl, rfl, ha, hb, z.1, z.2⟩))
    · exact h.elim
  · exact h.elim
def oSub : Op := fun d e S => match d, e with
  | .int i, .int j => .ok (.int (i - j)) S
  | _, _ => .bad
theorem od_sub : OpD X T (binaryOp .Sub) oSub := by
  refine ⟨_, op_sub, fun W σ μ S H x y d e Q hs rx ry h => ?_⟩
  unfold oSub at h
  split at h
  · cases rx
    cases ry
    exact ⟨_, _, rfl, rfl, wR.here hs h (.int _)⟩
  · exact h.elim
def oMod : Op := fun d e S => match d, e with
  | .int i, .int j => if 0 < j then .ok (.int (i % j)) S else .bad
  | _, _ => .bad
theorem od_mod : OpD X T (binaryOp .Mod) oMod := by
  refine ⟨_, op_mod, fun W σ μ S H x y d e Q hs rx ry h => ?_⟩
  unfold oMod at h
  split at h
  · split at h
    · cases rx
      cases ry
      exact ⟨_, _, rfl, rfl, ‹_›, wR.here hs h (.int _)⟩
    · exact h.elim
  · exact h.elim
def oDiv : Op := fun d e S => match d, e with
  | .int i, .int j => if 0 < j ∧ j < 1073741824 then .ok (.int (i / j)) S else .bad
  | _, _ => .bad
theorem od_div : OpD X T (binaryOp .FloorDiv) oDiv := by
  refine ⟨_, op_fdiv, fun W σ μ S H x y d e Q hs rx ry h => ?_⟩
  unfold oDiv at h
  split at h
  · split at h
    · cases rx
      cases ry
      exact ⟨_, _, rfl, rfl, ‹_›, wR.here hs h (.int _)⟩
    · exact h.elim
  · exact h.elim
end
end DL

set_option Elab.async false
set_option linter.all false
set_option maxRecDepth 100000
set_option maxHeartbeats 1000000
namespace L2
open PySem PySem.Spec PyProof.Rows
theorem tuple_mul_self (l : Addr) (items : Array Value) (n : Nat) (dd : Option Addr) (sl : Array (Option Value)) (x : Int) (u : Tok) (c0 : (decide (x < -(2 ^ 63)) || decide (x ≥ 2 ^ 63)) = false) (c1 : (items.isEmpty || x == 1) = true) :
    Meets (Builtin.«tuple.__mul__» ⟨[.ref l, .int x u], []⟩) (fun _ R s => s.heap.get? l = some { cls := .type "tuple", dict := dd, data := .seq items n, slots := sl } ∧ R (.ok (.ret (Value.ref l))) { s with heap := s.heap, toks := s.toks }) :=
  .of_wp fun prog w A R s h => by
    obtain ⟨hp, g, d, tk, os⟩ := s
    obtain ⟨hl, h⟩ := h
    have f1 := AutoSeq1.idx_int
    wp_walk using wpAny_loadPart' hl
    repeat (first
      | (refine wpAny_ite_false (decide_eq_false (by rw [c0]; exact Bool.false_ne_true)) ?_; wp_walk using wpAny_loadPart' hl)
      | (refine wpAny_ite_true (decide_eq_true c1) ?_; wp_walk using wpAny_loadPart' hl))
    exact ⟨_, rfl, h⟩
section
variable {X : Cx}
def rRepSelf (K : PySem.W.Frag) : R2 := fun x y H Q => ∃ l k xs, x = .ref l ∧ y = .int k ∧ SqT K H l xs ∧ (xs = [] ∨ k = 1) ∧ 0 ≤ k ∧ k ≤ 1000 ∧ Q (.ref l) H
theorem op_repSelf : OpR X (binaryOp .Mult) (rRepSelf X.K) := by
  intro pins s σ H x y v u Q I rx ry h
  obtain ⟨l, k, xs, rfl, rfl, hT, hne, h1, h2, q⟩ := h
  cases rx
  obtain ⟨t, rfl⟩ := ry
  obtain ⟨its, r, ⟨⟨cls, dd, data, sl⟩, ho, hc, n, hd⟩, hs⟩ := I.tuple hT
  simp only at hc hd
  subst hc hd
  have c0 : (decide (k < -(2 ^ 63)) || decide (k ≥ 2 ^ 63)) = false := by
    rw [decide_eq_false (by omega), decide_eq_false (by omega)] <;> rfl
  have c1 : (its.toArray.isEmpty || k == 1) = true := by
    rcases hne with e | e
    · subst e
      cases r
      rfl
    · subst e
      simp
  refine wpAny_binaryOp_repeat_ref (T := "tuple") (U := "int") (by decide) ⟨_, ho, rfl⟩ (fun s' => typeIs_int s' k t) noFill_tuple_mul F.fills_int_mul F.slot_int_rmul repeat_tuple F.slot_int_index.lookup
    (call_meets F.slot_int_rmul (typeIs_int s k t) F.entry_int_rmul (F.args_int_rmul_2 _ _) (int_rmul_tuple k t l its.toArray n dd sl)
      ⟨ho, rfl, ⟨_, ho, rfl⟩, call_meets F.slot_tuple_mul ⟨_, ho, rfl⟩ F.entry_tuple_mul (F.args_tuple_mul_2 _ _) (tuple_mul_self l its.toArray n dd sl k t c0 c1) ⟨ho, ?_⟩⟩)
  exact ⟨.ref l, H, I, rfl, q⟩
def rInT (K : PySem.W.Frag) : R2 := fun x y H Q => ∃ d ds, Dp K H x d ∧ Dp K H y (.tuple ds) ∧ SeqAt.shaped d = true ∧ SeqAt.shaped (.tuple ds) = true ∧ Q (.bl (ds.any fun z => PyData.eqv z d)) H
def rNotInT (K : PySem.W.Frag) : R2 := fun x y H Q => ∃ d ds, Dp K H x d ∧ Dp K H y (.tuple ds) ∧ SeqAt.shaped d = true ∧ SeqAt.shaped (.tuple ds) = true ∧ Q (.bl (!ds.any fun z => PyData.eqv z d)) H
theorem op_inTD (hu : X.A.units + 65 < cLine) : OpR X (compareOp .In) (rInT X.K) := by
  intro pins s σ H x y v u Q I rx ry h
  obtain ⟨d, ds, hd, he, sd, se, q⟩ := h
  obtain ⟨as, r1⟩ := Dp.reads I d x v hd rx
  obtain ⟨bs, r2⟩ := Dp.reads I (.tuple ds) y u he ry
  exact SeqAt.in_tuple_reads r2 r1 (SeqAt.canLay_of_shaped se) (SeqAt.canLay_of_shaped sd) (room_in_shaped sd hu) ⟨.bl _, H, I, rfl, q⟩
theorem op_notInTD (hu : X.A.units + 65 < cLine) : OpR X (compareOp .NotIn) (rNotInT X.K) := by
  intro pins s σ H x y v u Q I rx ry h
  obtain ⟨d, ds, hd, he, sd, se, q⟩ := h
  obtain ⟨as, r1⟩ := Dp.reads I d x v hd rx
  obtain ⟨bs, r2⟩ := Dp.reads I (.tuple ds) y u he ry
  exact SeqAt.notIn_tuple_reads r2 r1 (SeqAt.canLay_of_shaped se) (SeqAt.canLay_of_shaped sd) (room_in_shaped sd hu) ⟨.bl _, H, I, rfl, q⟩
end
end L2
namespace DL
open PySem L2
section
variable {X : Cx} {T : Gt} {W : WX}
def oMul : Op := fun d e S => match d, e with
  | .int i, .int j => if (-(2 ^ 64) < i ∧ i < 2 ^ 64) ∨ (-(2 ^ 64) < j ∧ j < 2 ^ 64) then .ok (.int (i * j)) S else .bad
  | .tup xs, .int k => if 0 ≤ k ∧ k ≤ 1000 ∧ (xs = [] ∨ k = 1) then .ok (.tup xs) S else if 2 ≤ k ∧ k ≤ 1000 ∧ xs.length ≤ 1000 then .ok (.tup (List.replicate k.toNat xs).flatten) S else .bad
  | .ref n, .int k => match S[n]? with
    | some (.lst xs) => if -(2 ^ 63) ≤ k ∧ k < 2 ^ 63 ∧ xs.length * k.toNat ≤ big then .ok (.ref S.length) (S ++ [.lst (List.replicate k.toNat xs).flatten]) else .bad
    | _ => .bad
  | _, _ => .bad
theorem od_mul : OpD X T (binaryOp .Mult) oMul := by
  refine ⟨_, op_mul.or (op_repSelf.or (op_repB.or op_rep)), fun W σ μ S H x y d e Q hs rx ry h => ?_⟩
  unfold oMul at h
  split at h
  · split at h
    · cases rx
      cases ry
      exact .inl ⟨_, _, rfl, rfl, ‹_›, wR.here hs h (.int _)⟩
    · exact h.elim
  · cases ry
    cases rx with
    | tup tx bx rx =>
      split at h
      · rename_i hyes
        obtain ⟨h1, h2, h3⟩ := hyes
        refine .inr (.inl ⟨_, _, _, rfl, rfl, tx.sq, ?_, h1, h2, wR.here hs h (.tup tx bx rx)⟩)
        rcases h3 with h3 | h3
        · subst h3
          cases rx
          exact .inl rfl
        · exact .inr h3
      · rename_i hno
        split at h
        · rename_i hyes
          obtain ⟨h1, h2, h3⟩ := hyes
          refine .inr (.inr (.inl ⟨_, _, _, rfl, rfl, tx.sq, fun z => hno ⟨by omega, h2, .inl ?_⟩, h1, h2, by rw [rx.length]; exact h3, newT_of hs (rx.rep _) h⟩))
          subst z
          cases rx
          rfl
        · exact h.elim
  · split at h
    · split at h
      · rename_i hyes
        cases ry
        obtain ⟨h1, h2, h3⟩ := hyes
        obtain ⟨a, xs, rfl, ea, ha, ra⟩ := hs.lst rx ‹_›
        refine .inr (.inr (.inr ⟨_, _, _, rfl, rfl, ha, h1, h2, ?_, fun p hp => ?_⟩))
        · rw [ra.length]
          exact big_ok h3
        · exact h _ _ _ (Gr.obj hp) (hs.grow hp ⟨_, upd_same, (ra.rep _).mono (Gr.obj hp)⟩) (.ref hs.last)
      · exact h.elim
    · exact h.elim
  · exact h.elim
def oPow : Op := fun d e S => match d, e with
  | .int i, .int j => if 0 ≤ j ∧ j ≤ 1000000 ∧ i.natAbs < 2 ^ 64 then .ok (.int (i ^ j.toNat)) S else .bad
  | _, _ => .bad
theorem od_pow : OpD X T (binaryOp .Pow) oPow := by
  refine ⟨_, op_pow, fun W σ μ S H x y d e Q hs rx ry h => ?_⟩
  unfold oPow at h
  split at h
  · split at h
    · cases rx
      cases ry
      exact ⟨_, _, rfl, rfl, ‹_›, wR.here hs h (.int _)⟩
    · exact h.elim
  · exact h.elim
def dNeg (a : Den) : Den := fun ε S => (a ε S).bind fun d S => match d with
  | .int i => .ok (.int (-i)) S
  | _ => .bad
theorem pd_neg {a : Expr} {da : Den} {pos : Pos} (ha : PE X a (tD (gx X T) W da)) : PE X (.UnaryOp .USub a pos) (tD (gx X T) W (dNeg da)) :=
  (pe_un un_neg ha).imp fun σ H Q ⟨ε, μ, S, sr, hs, h⟩ => ⟨ε, μ, S, sr, hs, (wR.bind (Rl := rlV (gx X T)) sr h).imp fun v H1 ⟨d, μ1, S1, g1, hs1, sr1, r1, h1⟩ => by
    have r1 : RV X.K μ1 H1 v d := r1
    cases r1 with
    | int i => exact ⟨i, rfl, wR.here hs1 h1 (.int _)⟩
    | _ => exact h1.elim⟩

def oInt (f : Int → Int → Bool) : Op := fun d e S => match d, e with
  | .int i, .int j => .ok (.bl (f i j)) S
  | _, _ => .bad
theorem od_int {op : CmpOp} {f : Int → Int → Bool} (ho : OpR X (compareOp op) (rI0 fun i j => .bl (f i j))) : OpD X T (compareOp op) (oInt f) := by
  refine ⟨_, ho, fun W σ μ S H x y d e Q hs rx ry h => ?_⟩
  unfold oInt at h
  split at h
  · cases rx
    cases ry
    exact ⟨_, _, rfl, rfl, wR.here hs h (.bl _)⟩
  · exact h.elim
abbrev oLt : Op := oInt fun i j => decide (i < j)
abbrev oLe : Op := oInt fun i j => decide (i ≤ j)
abbrev oGt : Op := oInt fun i j => decide (j < i)
abbrev oGe : Op := oInt fun i j => decide (j ≤ i)
theorem od_le : OpD X T (compareOp .LtE) oLe := od_int op_le
theorem od_gt : OpD X T (compareOp .Gt) oGt := od_int op_gt
def oNotN : Op := fun d e S => match e with
  | .non => .ok (.bl (match d with | .non => false | _ => true)) S
  | _ => .bad
def fall {α β : Type} (f : α → Option β) : List α → Option (List β)
  | [] => some []
  | a :: r => match f a, fall f r with
    | some b, some s => some (b :: s)
    | _, _ => none
def frz : Nat → Sto → D → Option PyData
  | 0, _, _ => none
  | n + 1, S, d => match d with
    | .non => some .none
    | .bl b => some (.bool b)
    | .int i => some (.int i)
    | .str x => some (.str x)
    | .tup ds => (fall (frz n S) ds).map .tuple
    | .seq ds => (fall (frz n S) ds).map .list
    | .ref m => match S[m]? with
      | some (.lst ds) => (fall (frz n S) ds).map .list
      | _ => none
theorem fall_dp {K : PySem.W.Frag} {μ : List Addr} {H : Hp} {f : D → Option PyData} (hf : ∀ v d p, RV K μ H v d → f d = some p → Dp K H v p) : ∀ {vs : List V} {ds : List D} {ps : List PyData}, RVs K μ H vs ds → fall f ds = some ps → DpAll K H vs ps
  | _, _, _, .nil, e => by cases e; exact .nil
  | _, d :: ds, _, .cons h t, e => by
    unfold fall at e
    split at e
    · cases e
      exact .cons (hf _ _ _ h ‹_›) (fall_dp hf t ‹_›)
    · cases e
theorem frz_dp {G : Gc} {μ : List Addr} {S : Sto} {H : Hp} (hs : HS G μ S H) : ∀ (n : Nat) {v : V} {d : D} {p : PyData}, RV G.K μ H v d → frz n S d = some p → Dp G.K H v p
  | 0, _, _, _, _, e => by cases e
  | n + 1, v, d, p, r, e => by
    have ih : ∀ v d p, RV G.K μ H v d → frz n S d = some p → Dp G.K H v p := fun v d p => frz_dp hs n
    unfold frz at e
    cases r with
    | non => cases e; exact .non
    | bl b => cases e; exact .bl b
    | int i => cases e; exact .int i
    | str x => cases e; exact .str x
    | tup t bt rs =>
      obtain ⟨ps, e1, rfl⟩ := Option.map_eq_some_iff.mp e
      exact .tup t.sq (fall_dp ih rs e1)
    | seq t rs =>
      obtain ⟨ps, e1, rfl⟩ := Option.map_eq_some_iff.mp e
      exact .lst t.sq (fall_dp ih rs e1)
    | ref q =>
      simp only at e
      split at e
      · obtain ⟨ps, e1, rfl⟩ := Option.map_eq_some_iff.mp e
        obtain ⟨a, xs, ev, ea, ha, ra⟩ := hs.lst (RV.ref q) ‹_›
        cases ev
        exact .lst (.inl (.inl ha)) (fall_dp ih ra e1)
      · cases e
def deep : Nat := 40
def sEq : D → D → Option Bool
  | .non, .non => some true
  | .non, .int _ => some false | .int _, .non => some false | .non, .bl _ => some false | .bl _, .non => some false | .non, .str _ => some false | .str _, .non => some false
  | .int i, .int j => some (decide (i = j))
  | .bl i, .bl j => some (decide (i = j))
  | .str i, .str j => some (decide (i = j))
  | .int _, .str _ => some false | .str _, .int _ => some false | .bl _, .str _ => some false | .str _, .bl _ => some false
  | _, _ => none
def dEq (S : Sto) (d e : D) : Option Bool := match sEq d e with
  | some b => some b
  | none => match frz deep S d, frz deep S e with
    | some p, some q => if SeqAt.shaped p = true ∧ SeqAt.shaped q = true then some (PyData.eqv p q) else none
    | _, _ => none
def oEq : Op := fun d e S => match dEq S d e with
  | some b => .ok (.bl b) S
  | none => .bad
def oNe : Op := fun d e S => match dEq S d e with
  | some b => .ok (.bl !b) S
  | none => .bad
theorem sEq_of {K : PySem.W.Frag} {μ : List Addr} {H : Hp} {x y : V} {d e : D} {b : Bool} (rx : RV K μ H x d) (ry : RV K μ H y e) (h : sEq d e = some b) : scal x y = true ∧ decide (x = y) = b := by
  cases rx <;> cases ry <;> first
    | (cases h; exact ⟨rfl, by simp⟩)
    | (cases h)
theorem od_eq (hu : X.A.units + 64 < cLine) : OpD X T (compareOp .Eq) oEq := by
  refine ⟨_, op_eq.or (op_eqD hu), fun W σ μ S H x y d e Q hs rx ry h => ?_⟩
  unfold oEq at h
  split at h
  · rename_i b hb
    unfold dEq at hb
    split at hb
    · cases hb
      obtain ⟨h1, h2⟩ := sEq_of rx ry ‹_›
      refine .inl ⟨h1, ?_⟩
      rw [h2]
      exact wR.here hs h (.bl _)
    · split at hb
      · split at hb
        · cases hb
          obtain ⟨h1, h2⟩ := ‹_ ∧ _›
          exact .inr ⟨_, _, frz_dp hs _ rx ‹_›, frz_dp hs _ ry ‹_›, h1, h2, wR.here hs h (.bl _)⟩
        · cases hb
      · cases hb
  · exact h.elim
theorem od_ne (hu : X.A.units + 64 < cLine) : OpD X T (compareOp .NotEq) oNe := by
  refine ⟨_, op_ne.or (op_neD hu), fun W σ μ S H x y d e Q hs rx ry h => ?_⟩
  unfold oNe at h
  split at h
  · rename_i b hb
    unfold dEq at hb
    split at hb
    · cases hb
      obtain ⟨h1, h2⟩ := sEq_of rx ry ‹_›
      refine .inl ⟨h1, ?_⟩
      rw [h2]
      exact wR.here hs h (.bl _)
    · split at hb
      · split at hb
        · cases hb
          obtain ⟨h1, h2⟩ := ‹_ ∧ _›
          exact .inr ⟨_, _, frz_dp hs _ rx ‹_›, frz_dp hs _ ry ‹_›, h1, h2, wR.here hs h (.bl _)⟩
        · cases hb
      · cases hb
  · exact h.elim
end
end DL

set_option Elab.async false
set_option linter.all false
set_option maxRecDepth 100000
set_option maxHeartbeats 1000000
namespace DL
open PySem L2
section
variable {X : Cx} {T : Gt} {W : WX}
def flatD : D → Bool
  | .non => true | .bl _ => true | .int _ => true | .str _ => true
  | _ => false
def eqF : D → D → Bool
  | .non, .non => true
  | .bl a, .bl b => a == b
  | .bl a, .int b => (if a then 1 else 0) == b
  | .int a, .bl b => a == (if b then 1 else 0)
  | .int a, .int b => a == b
  | .str a, .str b => a == b
  | _, _ => false
theorem flat_of {K : PySem.W.Frag} {μ : List Addr} {H : Hp} {v : V} {d : D} (r : RV K μ H v d) : flatV v = flatD d := by cases r <;> rfl
theorem eqF_of {K : PySem.W.Frag} {μ : List Addr} {H : Hp} {x y : V} {d e : D} (r : RV K μ H x d) (r' : RV K μ H y e) : eqV x y = eqF d e := by cases r <;> cases r' <;> rfl
theorem flats_of {K : PySem.W.Frag} {μ : List Addr} {H : Hp} : ∀ {vs : List V} {ds : List D}, RVs K μ H vs ds → vs.all flatV = ds.all flatD
  | _, _, .nil => rfl
  | _, _, .cons h t => by rw [List.all_cons, List.all_cons, flat_of h, flats_of t]
theorem inV_of {K : PySem.W.Frag} {μ : List Addr} {H : Hp} {x : V} {d : D} (r : RV K μ H x d) : ∀ {vs : List V} {ds : List D}, RVs K μ H vs ds → inV x vs = ds.any fun e => eqF e d
  | _, _, .nil => rfl
  | v :: vs, e :: ds, .cons h t => by
    have q := inV_of r t
    unfold inV at q ⊢
    rw [List.any_cons, List.any_cons, eqF_of h r, q]
def items (S : Sto) : D → Option (List D)
  | .tup ds => some ds
  | .seq ds => some ds
  | .ref n => match S[n]? with
    | some (.lst ds) => some ds
    | _ => none
  | _ => none
theorem items_of {G : Gc} {μ : List Addr} {S : Sto} {H : Hp} (hs : HS G μ S H) {v : V} {d : D} {ds : List D} (r : RV G.K μ H v d) (e : items S d = some ds) : ∃ a xs, v = .ref a ∧ (SqL G.K H a xs ∨ SqT G.K H a xs) ∧ RVs G.K μ H xs ds := by
  cases r with
  | tup t _ rs => cases e; exact ⟨_, _, rfl, .inr t.sq, rs⟩
  | seq t rs => cases e; exact ⟨_, _, rfl, .inl t.sq, rs⟩
  | ref q =>
    simp only [items] at e
    split at e
    · cases e
      obtain ⟨a, xs, ev, ea, ha, ra⟩ := hs.lst (RV.ref q) ‹_›
      exact ⟨a, xs, ev, .inl (.inl (.inl ha)), ra⟩
    · cases e
  | _ => cases e
def inD (S : Sto) (d e : D) : Option Bool := match d, e with
  | .str x, .str y => if x.cps.size = 1 then some (decide (x.cps.getD 0 0 ∈ y.cps.toList)) else none
  | d, e => match items S e with
    | some ds => if flatD d = true ∧ ds.all flatD = true then some (ds.any fun z => eqF z d) else
      match frz deep S d, frz deep S e with
      | some p, some (.list ps) => if SeqAt.shaped p = true ∧ SeqAt.shaped (.list ps) = true then some (ps.any fun z => PyData.eqv z p) else none
      | some p, some (.tuple ps) => if SeqAt.shaped p = true ∧ SeqAt.shaped (.tuple ps) = true then some (ps.any fun z => PyData.eqv z p) else none
      | _, _ => none
    | none => none
def oIn : Op := fun d e S => match inD S d e with
  | some b => .ok (.bl b) S
  | none => .bad
def oNotIn : Op := fun d e S => match inD S d e with
  | some b => .ok (.bl !b) S
  | none => .bad
theorem sign_eta {x : Str} (h : x.cps.size = 1) : x = ⟨#[x.cps.getD 0 0]⟩ := by
  obtain ⟨c⟩ := x
  obtain ⟨l⟩ := c
  match l, h with
  | [a], _ => rfl
theorem inD_to {G : Gc} {σ : L2.St} {μ : List Addr} {S : Sto} {H : Hp} {x y : V} {d e : D} {b : Bool} (hs : HS G μ S H) (rx : RV G.K μ H x d) (ry : RV G.K μ H y e) (h : inD S d e = some b) (neg : Bool) {Q : VK} (q : Q (.bl (if neg then !b else b)) H) :
    (∃ c z, x = V.str ⟨#[c]⟩ ∧ y = V.str z ∧ Q (.bl (if neg then !(decide (c ∈ z.cps.toList)) else decide (c ∈ z.cps.toList))) H) ∨ rIn G.K neg x y H Q ∨
    (∃ p ps, Dp G.K H x p ∧ Dp G.K H y (.list ps) ∧ SeqAt.shaped p = true ∧ SeqAt.shaped (.list ps) = true ∧ Q (.bl (if neg then !(ps.any fun z => PyData.eqv z p) else (ps.any fun z => PyData.eqv z p))) H) ∨
    (∃ p ps, Dp G.K H x p ∧ Dp G.K H y (.tuple ps) ∧ SeqAt.shaped p = true ∧ SeqAt.shaped (.tuple ps) = true ∧ Q (.bl (if neg then !(ps.any fun z => PyData.eqv z p) else (ps.any fun z => PyData.eqv z p))) H) := by
  unfold inD at h
  split at h
  · split at h
    · rename_i hx
      cases h
      cases rx
      cases ry
      exact .inl ⟨_, _, congrArg V.str (sign_eta hx), rfl, q⟩
    · cases h
  · split at h
    · rename_i ds hd
      split at h
      · rename_i hf
        cases h
        obtain ⟨a, xs, ev, hq, rs⟩ := items_of hs ry hd
        refine .inr (.inl ⟨a, xs, ev, hq, by rw [flat_of rx]; exact hf.1, by rw [flats_of rs]; exact hf.2, ?_⟩)
        rw [inV_of rx rs]
        exact q
      · split at h
        · split at h
          · rename_i hsh
            cases h
            exact .inr (.inr (.inl ⟨_, _, frz_dp hs _ rx ‹_›, frz_dp hs _ ry ‹_›, hsh.1, hsh.2, q⟩))
          · cases h
        · split at h
          · rename_i hsh
            cases h
            exact .inr (.inr (.inr ⟨_, _, frz_dp hs _ rx ‹_›, frz_dp hs _ ry ‹_›, hsh.1, hsh.2, q⟩))
          · cases h
        · cases h
    · cases h
theorem od_in (hu : X.A.units + 65 < cLine) : OpD X T (compareOp .In) oIn := by
  refine ⟨_, op_in_sign.or (op_in_seq.or ((op_inD hu).or (op_inTD hu))), fun W σ μ S H x y d e Q hs rx ry h => ?_⟩
  unfold oIn at h
  split at h
  · exact inD_to (σ := σ) hs rx ry ‹_› false (wR.here hs h (.bl _))
  · exact h.elim
theorem od_notIn (hu : X.A.units + 65 < cLine) : OpD X T (compareOp .NotIn) oNotIn := by
  refine ⟨_, op_notIn_sign.or (op_notIn_seq.or ((op_notInD hu).or (op_notInTD hu))), fun W σ μ S H x y d e Q hs rx ry h => ?_⟩
  unfold oNotIn at h
  split at h
  · exact inD_to (σ := σ) hs rx ry ‹_› true (wR.here hs h (.bl _))
  · exact h.elim

def oIx : Op := fun d e S => match d, e with
  | .str z, .int i => if z.length ≤ big then (match atI z.cps.toList i with
    | some c => .ok (.str ⟨#[c]⟩) S
    | none => .bad) else .bad
  | d, .int i => match items S d with
    | some ds => (match atI ds i with
      | some x => .ok x S
      | none => .bad)
    | none => .bad
  | _, _ => .bad
theorem atI_of {K : PySem.W.Frag} {μ : List Addr} {H : Hp} {vs : List V} {ds : List D} {i : Int} {d : D} (r : RVs K μ H vs ds) (e : atI ds i = some d) : ∃ v, atI vs i = some v ∧ RV K μ H v d := by
  unfold atI at e ⊢
  rw [r.length]
  obtain ⟨j, e1, e2⟩ := Option.bind_eq_some_iff.mp e
  obtain ⟨v, h1, h2⟩ := r.get e2
  exact ⟨v, by rw [e1]; exact h1, h2⟩
theorem pd_ix {a b : Expr} {da db : Den} {pos : Pos} (ha : PE X a (tD (gx X T) W da)) (hb : PE X b (tD (gx X T) W db)) (hp : PlainIx b := by exact fun _ _ => rfl) : PE X (.Subscript a b pos) (tD (gx X T) W (dBin oIx da db)) := by
  refine (pe_ix (ix_str.or (ix_list.or ix_tup)) ha hb hp).imp (bin_to fun W σ μ S H x y d e Q hs rx ry h => ?_)
  unfold oIx at h
  split at h
  · split at h
    · split at h
      · cases rx
        cases ry
        exact .inl ⟨_, _, _, rfl, rfl, big_ok ‹_›, ‹_›, wR.here hs h (.str _)⟩
      · exact h.elim
    · exact h.elim
  · split at h
    · split at h
      · cases ry
        obtain ⟨p, xs, ev, hq, rs⟩ := items_of hs rx ‹_›
        obtain ⟨v, h1, h2⟩ := atI_of rs ‹_›
        subst ev
        rcases hq with hq | hq
        · exact .inr (.inl ⟨_, _, _, _, rfl, rfl, hq, h1, wR.here hs h h2⟩)
        · exact .inr (.inr ⟨_, _, _, _, rfl, rfl, hq, h1, wR.here hs h h2⟩)
      · exact h.elim
    · exact h.elim
  · exact h.elim
def cutD (xs : List D) (lo hi : Option Int) : List D := (xs.drop (HT.sIx xs.length 0 lo)).take (HT.sIx xs.length xs.length hi - HT.sIx xs.length 0 lo)
theorem cut_of {K : PySem.W.Frag} {μ : List Addr} {H : Hp} {vs : List V} {ds : List D} (r : RVs K μ H vs ds) (lo hi : Option Int) : RVs K μ H (cutV vs lo hi) (cutD ds lo hi) := by
  unfold cutV cutD
  rw [r.length]
  exact (r.drop _).take _
def oSl (d : D) (lo hi : Option Int) (S : Sto) : R D := match d with
  | .str z => if z.length ≤ big then .ok (.str (cutS z lo hi)) S else .bad
  | .tup ds => .ok (.tup (cutD ds lo hi)) S
  | .seq ds => if ds.length ≤ big then .ok (.ref S.length) (S ++ [.lst (cutD ds lo hi)]) else .bad
  | .ref n => match S[n]? with
    | some (.lst ds) => if ds.length ≤ big then .ok (.ref S.length) (S ++ [.lst (cutD ds lo hi)]) else .bad
    | _ => .bad
  | _ => .bad
def dNoPart : DenO := fun _ S => .ok none S
def dPart (a : Den) : DenO := fun ε S => (a ε S).bind fun d S => match d with
  | .int i => .ok (some i) S
  | _ => .bad
theorem _root_.L2.PO.imp {X : Cx} {e : Option Expr} {t t' : TO} (h : PO X e t) (q : ∀ σ H Q, t' σ H Q → t σ H Q) : PO X e t' := ⟨fun pins s σ H Q I z => h.run pins s σ H Q I (q _ _ _ z)⟩
theorem pod_none : PO X none (tDO (gx X T) W dNoPart) := po_none.imp fun _ _ _ ⟨_, _, _, _, hs, h⟩ => wR.here hs h rfl
theorem pod_some {e : Expr} {a : Den} (ha : PE X e (tD (gx X T) W a)) : PO X (some e) (tDO (gx X T) W (dPart a)) :=
  (po_some ha).imp fun σ H Q ⟨ε, μ, S, sr, hs, h⟩ => ⟨ε, μ, S, sr, hs, (wR.bind (Rl := rlV (gx X T)) sr h).imp fun v H1 ⟨d, μ1, S1, g1, hs1, sr1, r1, h1⟩ => by
    have r1 : RV X.K μ1 H1 v d := r1
    cases r1 with
    | int i => exact ⟨i, rfl, wR.here hs1 h1 rfl⟩
    | _ => exact h1.elim⟩
def dSl (a : Den) (lo hi : DenO) : Den := fun ε S => (a ε S).bind fun d S => (lo ε S).bind fun l S => (hi ε S).bind fun u S => oSl d l u S
theorem cutD_whole {vs : List D} {lo hi : Option Int} (h : HT.sIx vs.length 0 lo = 0 ∧ HT.sIx vs.length vs.length hi = vs.length) : cutD vs lo hi = vs := by
  unfold cutD
  rw [h.1, h.2]
  simp
theorem pd_sl {e : Expr} {lo hi : Option Expr} {a : Den} {dl dh : DenO} {pos p2 : Pos} (ha : PE X e (tD (gx X T) W a)) (hl : PO X lo (tDO (gx X T) W dl)) (hh : PO X hi (tDO (gx X T) W dh)) : PE X (.Subscript e (.Slice lo hi none p2) pos) (tD (gx X T) W (dSl a dl dh)) :=
  (pe_slice (sl_str.or (sl_list.or sl_tupB)) ha hl hh).imp fun σ H Q ⟨ε, μ, S, sr, hs, h⟩ => ⟨ε, μ, S, sr, hs, (wR.bind (Rl := rlV (gx X T)) sr h).imp fun v H1 ⟨d, μ1, S1, g1, hs1, sr1, r1, h1⟩ =>
    ⟨ε, μ1, S1, sr1, hs1, (wR.bind (Rl := rlO) sr1 h1).imp fun l H2 ⟨l', μ2, S2, g2, hs2, sr2, r2, h2⟩ =>
      ⟨ε, μ2, S2, sr2, hs2, (wR.bind (Rl := rlO) sr2 h2).imp fun u H3 ⟨u', μ3, S3, g3, hs3, sr3, r3, h3⟩ => by
        have e1 : l = l' := r2
        have e2 : u = u' := r3
        subst e1 e2
        have rx : RV X.K μ3 H3 v d := RV.mono (g2.trans g3) r1
        unfold oSl at h3
        split at h3
        · split at h3
          · cases rx
            exact .inl ⟨_, rfl, big_ok ‹_›, wR.here hs3 h3 (.str _)⟩
          · exact h3.elim
        · cases rx with
          | tup t bt rs =>
            refine .inr (.inr ⟨_, _, rfl, t.sq, fun z => ?_, fun _ => ?_⟩)
            · rw [rs.length] at z
              rw [cutD_whole z] at h3
              exact wR.here hs3 h3 (.tup t bt rs)
            · exact newT_of hs3 (cut_of rs _ _) h3
        · split at h3
          · cases rx with
            | seq t rs =>
              exact .inr (.inl ⟨_, _, rfl, t.sq, fun p hp => h3 _ _ _ (Gr.obj hp) (hs3.grow hp ⟨_, upd_same, (cut_of rs _ _).mono (Gr.obj hp)⟩) (.ref hs3.last)⟩)
          · exact h3.elim
        · split at h3
          · split at h3
            · obtain ⟨p, xs, rfl, ea, hp', rs⟩ := hs3.lst rx ‹_›
              exact .inr (.inl ⟨_, _, rfl, .inl (.inl hp'), fun p hp => h3 _ _ _ (Gr.obj hp) (hs3.grow hp ⟨_, upd_same, (cut_of rs _ _).mono (Gr.obj hp)⟩) (.ref hs3.last)⟩)
            · exact h3.elim
          · exact h3.elim
        · exact h3.elim⟩⟩⟩

def bAnd (a b : DenB) : DenB := fun ε S => (a ε S).bind fun c S => if c = true then b ε S else .ok false S
def bOr (a b : DenB) : DenB := fun ε S => (a ε S).bind fun c S => if c = true then .ok true S else b ε S
def bNot (a : DenB) : DenB := fun ε S => (a ε S).bind fun c S => .ok (!c) S
section
variable {a b c : Expr} {rest : List Expr} {da db dc : Den} {ba bb : DenB} {pos : Pos}
theorem pwd_and1 (ha : PT X a (tDB (gx X T) W ba)) : PW X (.BoolOp .And [a] pos) (tDB (gx X T) W ba) := pw_and1 ha
theorem pwd_or1 (ha : PT X a (tDB (gx X T) W ba)) : PW X (.BoolOp .Or [a] pos) (tDB (gx X T) W ba) := pw_or1 ha
theorem pwd_and (ha : PT X a (tDB (gx X T) W ba)) (hb : PW X (.BoolOp .And (b :: rest) pos) (tDB (gx X T) W bb)) : PW X (.BoolOp .And (a :: b :: rest) pos) (tDB (gx X T) W (bAnd ba bb)) :=
  (pw_and ha hb).imp fun σ H Q ⟨ε, μ, S, sr, hs, h⟩ => ⟨ε, μ, S, sr, hs, (wR.bind (Rl := rlB) sr h).imp fun v H1 ⟨d, μ1, S1, g1, hs1, sr1, r1, h1⟩ => by
    have r1 : v = d := r1
    subst r1
    cases v with
    | true => exact ⟨ε, μ1, S1, sr1, hs1, h1⟩
    | false => exact wR.here hs1 h1 rfl⟩
theorem pwd_or (ha : PT X a (tDB (gx X T) W ba)) (hb : PW X (.BoolOp .Or (b :: rest) pos) (tDB (gx X T) W bb)) : PW X (.BoolOp .Or (a :: b :: rest) pos) (tDB (gx X T) W (bOr ba bb)) :=
  (pw_or ha hb).imp fun σ H Q ⟨ε, μ, S, sr, hs, h⟩ => ⟨ε, μ, S, sr, hs, (wR.bind (Rl := rlB) sr h).imp fun v H1 ⟨d, μ1, S1, g1, hs1, sr1, r1, h1⟩ => by
    have r1 : v = d := r1
    subst r1
    cases v with
    | true => exact wR.here hs1 h1 rfl
    | false => exact ⟨ε, μ1, S1, sr1, hs1, h1⟩⟩
theorem ptd_not (ha : PT X a (tDB (gx X T) W ba)) : PT X (.UnaryOp .Not a pos) (tDB (gx X T) W (bNot ba)) :=
  (pt_not ha).imp fun σ H Q ⟨ε, μ, S, sr, hs, h⟩ => ⟨ε, μ, S, sr, hs, (wR.bind (Rl := rlB) sr h).imp fun v H1 ⟨d, μ1, S1, g1, hs1, sr1, r1, h1⟩ => by
    have r1 : v = d := r1
    subst r1
    exact wR.here hs1 h1 rfl⟩
def dAndV (a b : Den) : Den := fun ε S => (a ε S).bind fun c S => match c with
  | .bl true => b ε S
  | .bl false => .ok (.bl false) S
  | _ => .bad
theorem pd_one {op : BoolOp} (ha : PE X a (tD (gx X T) W da)) : PE X (.BoolOp op [a] pos) (tD (gx X T) W da) := pe_one ha
theorem pd_and (ha : PE X a (tD (gx X T) W da)) (hb : PE X (.BoolOp .And (b :: rest) pos) (tD (gx X T) W db)) : PE X (.BoolOp .And (a :: b :: rest) pos) (tD (gx X T) W (dAndV da db)) :=
  (pe_and ha hb).imp fun σ H Q ⟨ε, μ, S, sr, hs, h⟩ => ⟨ε, μ, S, sr, hs, (wR.bind (Rl := rlV (gx X T)) sr h).imp fun v H1 ⟨d, μ1, S1, g1, hs1, sr1, r1, h1⟩ => by
    have r1 : RV X.K μ1 H1 v d := r1
    cases r1 with
    | bl k =>
      refine ⟨k, rfl, ?_⟩
      cases k with
      | true => exact ⟨ε, μ1, S1, sr1, hs1, h1⟩
      | false => exact wR.here hs1 h1 (.bl _)
    | _ => exact h1.elim⟩
def dIf (c : DenB) (a b : Den) : Den := fun ε S => (c ε S).bind fun k S => if k = true then a ε S else b ε S
def dChain (o o' : Op) (a b c : Den) : Den := fun ε S => (a ε S).bind fun x S => (b ε S).bind fun y S => (o x y S).bind fun k S => match k with
  | .bl true => (c ε S).bind fun z S => o' y z S
  | .bl false => .ok (.bl false) S
  | _ => .bad
theorem chain_to {o o' : Op} {r r' : R2} (ho : ∀ (W : WX) σ μ S H x y d e Q, HS (gx X T) μ S H → RV X.K μ H x d → RV X.K μ H y e → wR (gx X T) W (rlV (gx X T)) (o d e S) σ μ H Q → r x y H Q)
    (ho' : ∀ (W : WX) σ μ S H x y d e Q, HS (gx X T) μ S H → RV X.K μ H x d → RV X.K μ H y e → wR (gx X T) W (rlV (gx X T)) (o' d e S) σ μ H Q → r' x y H Q) :
    ∀ σ H Q, tD (gx X T) W (dChain o o' da db dc) σ H Q → tChain r r' (tD (gx X T) W da) (tD (gx X T) W db) (tD (gx X T) W dc) σ H Q := fun σ H Q ⟨ε, μ, S, sr, hs, h⟩ =>
  ⟨ε, μ, S, sr, hs, (wR.bind (Rl := rlV (gx X T)) sr h).imp fun v H1 ⟨d, μ1, S1, g1, hs1, sr1, r1, h1⟩ =>
    ⟨ε, μ1, S1, sr1, hs1, (wR.bind (Rl := rlV (gx X T)) sr1 h1).imp fun w H2 ⟨e, μ2, S2, g2, hs2, sr2, r2, h2⟩ =>
      ho W σ μ2 S2 H2 v w d e _ hs2 (RV.mono g2 r1) r2 ((wR.bind (Rl := rlV (gx X T)) sr2 h2).imp fun z H3 ⟨k, μ3, S3, g3, hs3, sr3, r3, h3⟩ => by
        have r3 : RV X.K μ3 H3 z k := r3
        cases r3 with
        | bl k =>
          refine ⟨k, rfl, ?_⟩
          cases k with
          | true => exact ⟨ε, μ3, S3, sr3, hs3, (wR.bind (Rl := rlV (gx X T)) sr3 h3).imp fun u H4 ⟨f, μ4, S4, g4, hs4, sr4, r4, h4⟩ => ho' W σ μ4 S4 H4 w u e f _ hs4 (RV.mono (g3.trans g4) r2) r4 h4⟩
          | false => exact wR.here hs3 h3 (.bl _)
        | _ => exact h3.elim)⟩⟩
theorem ptd_chain {op op' : CmpOp} {o o' : Op} (ho : OpD X T (compareOp op) o) (ho' : OpD X T (compareOp op') o') (ha : PE X a (tD (gx X T) W da)) (hb : PE X b (tD (gx X T) W db)) (hc : PE X c (tD (gx X T) W dc))
    (hm : lastMarks [op, op'] [b, c] = false := by with_unfolding_all rfl) : PT X (.Compare a [op, op'] [b, c] pos) (tDB (gx X T) W (dTest (dChain o o' da db dc))) := by
  obtain ⟨r, hr, q⟩ := ho
  obtain ⟨r', hr', q'⟩ := ho'
  exact (pt_chain hr hr' ha hb hc hm).imp (test_to (chain_to q q'))
end
end
end DL

set_option Elab.async false
set_option linter.all false
set_option maxRecDepth 100000
set_option maxHeartbeats 1000000
namespace DL
open PySem L2
section
variable {X : Cx} {T : Gt} {W : WX}
abbrev Fn := List D → Sto → R D
def CallD (X : Cx) (T : Gt) (f : Value) (o : Fn) : Prop :=
  ∃ r, CallR X f r ∧ ∀ (W : WX) σ μ S H vs ds Q, HS (gx X T) μ S H → RVs X.K μ H vs ds → wR (gx X T) W (rlV (gx X T)) (o ds S) σ μ H Q → r vs H Q
def dFn (o : Fn) (a : DenA) : Den := fun ε S => (a ε S).bind fun ds S => o ds S
theorem fn_to {o : Fn} {r : List V → Hp → VK → Prop} {a : DenA} (ho : ∀ (W : WX) σ μ S H vs ds Q, HS (gx X T) μ S H → RVs X.K μ H vs ds → wR (gx X T) W (rlV (gx X T)) (o ds S) σ μ H Q → r vs H Q) :
    ∀ σ H Q, tD (gx X T) W (dFn o a) σ H Q → tCB r (tDA (gx X T) W a) σ H Q := fun σ H Q ⟨ε, μ, S, sr, hs, h⟩ =>
  ⟨ε, μ, S, sr, hs, (wR.bind (Rl := rlA (gx X T)) sr h).imp fun v H1 ⟨d, μ1, S1, g1, hs1, sr1, r1, h1⟩ => ho W σ μ1 S1 H1 v d Q hs1 r1 h1⟩
theorem pd_callB {x : Str} {p pos : Pos} {e : Expr} {es : List Expr} {a : DenA} {id : String} {o : Fn} (ho : CallD X T (.builtin id) o) (hg : Gl X x) (hm : X.mg x = none) (hb : bootBuiltins x = some (.builtin id)) (ha : PA X (e :: es) (tDA (gx X T) W a))
    (hn : x ≠ "__name__" := by decide) (hd : (x == ("__debug__" : Str)) = false := by decide) (he : starEach (e :: es) X.env = (false, eval e X.env) :: starEach es X.env := by rfl) (hpl : (backTo pos (starEach es X.env)).any (·.1) = false := by rfl) :
    PE X (.Call (.Name x p) (e :: es) [] pos) (tD (gx X T) W (dFn o a)) := by
  obtain ⟨r, hr, q⟩ := ho
  exact (pe_callB hr hg hm hb ha hn hd he hpl).imp (fn_to q)
theorem pd_callTy {x : Str} {p pos : Pos} {e : Expr} {es : List Expr} {a : DenA} {id : String} {o : Fn} (ho : CallD X T (.type id) o) (hg : Gl X x) (hm : X.mg x = none) (hb : bootBuiltins x = some (.type id)) (ha : PA X (e :: es) (tDA (gx X T) W a))
    (hn : x ≠ "__name__" := by decide) (hd : (x == ("__debug__" : Str)) = false := by decide) (he : starEach (e :: es) X.env = (false, eval e X.env) :: starEach es X.env := by rfl) (hpl : (backTo pos (starEach es X.env)).any (·.1) = false := by rfl) :
    PE X (.Call (.Name x p) (e :: es) [] pos) (tD (gx X T) W (dFn o a)) := by
  obtain ⟨r, hr, q⟩ := ho
  exact (pe_callTy hr hg hm hb ha hn hd he hpl).imp (fn_to q)
theorem one_of {K : PySem.W.Frag} {μ : List Addr} {H : Hp} {vs : List V} {d : D} (r : RVs K μ H vs [d]) : ∃ v, vs = [v] ∧ RV K μ H v d := by
  cases r with
  | cons h t => cases t; exact ⟨_, rfl, h⟩
def fLen : Fn := fun ds S => match ds with
  | [.str z] => if z.length ≤ big then .ok (.int z.length) S else .bad
  | [d] => (match items S d with
    | some xs => .ok (.int xs.length) S
    | none => .bad)
  | _ => .bad
theorem cd_len : CallD X T (.builtin "len") fLen := by
  refine ⟨_, call_len, fun W σ μ S H vs ds Q hs r h => ?_⟩
  unfold fLen at h
  split at h
  · split at h
    · obtain ⟨v, rfl, r1⟩ := one_of r
      cases r1
      exact ⟨.str _, _, rfl, ⟨big_ok ‹_›, rfl⟩, wR.here hs h (.int _)⟩
    · exact h.elim
  · split at h
    · obtain ⟨v, rfl, r1⟩ := one_of r
      obtain ⟨a, xs, rfl, hq, rs⟩ := items_of hs r1 ‹_›
      refine ⟨.ref a, xs.length, rfl, ?_, ?_⟩
      · rcases hq with hq | hq
        · exact .inl ⟨_, hq, rfl⟩
        · exact .inr ⟨_, hq, rfl⟩
      · rw [rs.length]
        exact wR.here hs h (.int _)
    · exact h.elim
  · exact h.elim
def fInt : Fn := fun ds S => match ds with
  | [.int i] => .ok (.int i) S
  | [.bl b] => .ok (.int (if b then 1 else 0)) S
  | _ => .bad
def fStrI : Fn := fun ds S => match ds with
  | [.int i] => if i.natAbs.log2 < 1920 then .ok (.str (toString i)) S else .bad
  | _ => .bad
theorem cd_strI : CallD X T (.type "str") fStrI := by
  refine ⟨_, call_str_int, fun W σ μ S H vs ds Q hs r h => ?_⟩
  unfold fStrI at h
  split at h
  · split at h
    · obtain ⟨v, rfl, r1⟩ := one_of r
      cases r1
      exact ⟨_, rfl, ‹_›, wR.here hs h (.str _)⟩
    · exact h.elim
  · exact h.elim
def fList : Fn := fun ds S => match ds with
  | [d] => (match items S d with
    | some xs => .ok (.ref S.length) (S ++ [.lst xs])
    | none => .bad)
  | _ => .bad
theorem cd_list : CallD X T (.type "list") fList := by
  refine ⟨_, call_list_of, fun W σ μ S H vs ds Q hs r h => ?_⟩
  unfold fList at h
  split at h
  · split at h
    · obtain ⟨v, rfl, r1⟩ := one_of r
      obtain ⟨a, xs, rfl, hq, rs⟩ := items_of hs r1 ‹_›
      exact ⟨_, _, rfl, hq, fun p hp => h _ _ _ (Gr.obj hp) (hs.grow hp ⟨_, upd_same, rs.mono (Gr.obj hp)⟩) (.ref hs.last)⟩
    · exact h.elim
  · exact h.elim
def fTuple : Fn := fun ds S => match ds with
  | [d] => (match items S d with
    | some xs => .ok (.tup xs) S
    | none => .bad)
  | _ => .bad
theorem cd_tuple : CallD X T (.type "tuple") fTuple := by
  refine ⟨_, call_tupleB, fun W σ μ S H vs ds Q hs r h => ?_⟩
  unfold fTuple at h
  split at h
  · split at h
    · rename_i d xs0 he
      obtain ⟨v, rfl, r1⟩ := one_of r
      cases r1 with
      | tup t bt rs =>
        cases he
        exact ⟨_, _, rfl, .inr ⟨t.sq, wR.here hs h (.tup t bt rs)⟩⟩
      | seq t rs =>
        cases he
        exact ⟨_, _, rfl, .inl ⟨t.sq, newT_of hs rs h⟩⟩
      | ref q =>
        simp only [items] at he
        split at he
        · cases he
          obtain ⟨a, xs, ev, ea, ha, ra⟩ := hs.lst (RV.ref q) ‹_›
          cases ev
          exact ⟨_, _, rfl, .inl ⟨.inl (.inl ha), newT_of hs ra h⟩⟩
        · cases he
      | _ => cases he
    · exact h.elim
  · exact h.elim
def litems (S : Sto) : D → Option (List D)
  | .seq ds => some ds
  | .ref n => match S[n]? with
    | some (.lst ds) => some ds
    | _ => none
  | _ => none
theorem litems_of {G : Gc} {μ : List Addr} {S : Sto} {H : Hp} (hs : HS G μ S H) {v : V} {d : D} {ds : List D} (r : RV G.K μ H v d) (e : litems S d = some ds) : ∃ a xs, v = .ref a ∧ SqL G.K H a xs ∧ RVs G.K μ H xs ds := by
  cases r with
  | seq t rs => cases e; exact ⟨_, _, rfl, t.sq, rs⟩
  | ref q =>
    simp only [litems] at e
    split at e
    · cases e
      obtain ⟨a, xs, ev, ea, ha, ra⟩ := hs.lst (RV.ref q) ‹_›
      exact ⟨a, xs, ev, .inl (.inl ha), ra⟩
    · cases e
  | _ => cases e
def intD : D → Option Int
  | .int i => some i
  | _ => none
def blD : D → Option Bool
  | .bl i => some i
  | _ => none
def strD : D → Option Str
  | .str i => some i
  | _ => none
theorem fall_bls {ds : List D} {ns : List Bool} (h : fall blD ds = some ns) : ds = ns.map D.bl := by
  induction ds generalizing ns with
  | nil => cases h; rfl
  | cons d ds ih =>
    unfold fall at h
    split at h
    · cases h
      rename_i b s h1 h2
      rw [ih h2]
      cases d <;> cases h1
      rfl
    · cases h
theorem fall_strs {ds : List D} {ns : List Str} (h : fall strD ds = some ns) : ds = ns.map D.str := by
  induction ds generalizing ns with
  | nil => cases h; rfl
  | cons d ds ih =>
    unfold fall at h
    split at h
    · cases h
      rename_i b s h1 h2
      rw [ih h2]
      cases d <;> cases h1
      rfl
    · cases h
def fLst (f : List D → Sto → R D) : Fn := fun ds S => match ds with
  | [d] => (match litems S d with
    | some xs => f xs S
    | none => .bad)
  | _ => .bad
def fAll : Fn := fLst fun xs S => match fall blD xs with
  | some ns => .ok (.bl (ns.all id)) S
  | none => .bad
theorem cd_all (hc : X.calm = true) : CallD X T (.builtin "all") fAll := by
  refine ⟨_, cr_all hc, fun W σ μ S H vs ds Q hs r h => ?_⟩
  unfold fAll fLst at h
  split at h
  · split at h
    · dsimp only at h
      split at h
      · rename_i he _ ns hn
        obtain ⟨v, rfl, r1⟩ := one_of r
        obtain ⟨a, xs, rfl, hq, rs⟩ := litems_of hs r1 he
        rw [fall_bls hn] at rs
        rw [rs.bls] at hq
        exact ⟨_, _, rfl, hq, wR.here hs h (.bl _)⟩
      · exact h.elim
    · exact h.elim
  · exact h.elim
def tyD (S : Sto) : D → Option String
  | .non => some "NoneType"
  | .bl _ => some "bool"
  | .int _ => some "int"
  | .str _ => some "str"
  | .tup _ => some "tuple"
  | .seq _ => some "list"
  | .ref n => match S[n]? with
    | some (.lst _) => some "list"
    | some (.dct _) => some "dict"
    | _ => none
theorem ty_of {G : Gc} {μ : List Addr} {S : Sto} {H : Hp} (hs : HS G μ S H) {v : V} {d : D} {t : String} (r : RV G.K μ H v d) (e : tyD S d = some t) : TyX G.K H v (.type t) := by
  cases r with
  | non => cases e; exact .base .non
  | bl b => cases e; exact .base (.bl b)
  | int i => cases e; exact .base (.int i)
  | str x => cases e; exact .base (.str x)
  | tup t _ rs =>
    cases e
    rcases t.2 with q | ⟨o, q⟩
    · exact .base (.tup q)
    · exact .fTuple q
  | seq t rs =>
    cases e
    rcases t with ⟨_, o, t⟩ | ⟨o, its, n, h1, h2, _⟩
    · exact .base (.frz t)
    · exact .kList h1 h2
  | ref q =>
    simp only [tyD] at e
    split at e
    · cases e
      obtain ⟨a, xs, ev, ea, ha, ra⟩ := hs.lst (RV.ref q) ‹_›
      cases ev
      exact .base (.lst ha)
    · cases e
      obtain ⟨a, xs, ev, ea, ha, ra⟩ := hs.dct (RV.ref q) ‹_›
      cases ev
      exact .base (.dK ha)
    · cases e
def isiD (c : String) (S : Sto) (d : D) : Option Bool := match tyD S d with
  | some t => kitB t c
  | none => none
def dIsi (c : String) (a : Den) : Den := fun ε S => (a ε S).bind fun d S => match isiD c S d with
  | some b => .ok (.bl b) S
  | none => .bad
theorem pd_isi {c : String} {y : Str} {e : Expr} {a : Den} {p p2 pos : Pos} (hg : Gl X "isinstance") (hm : X.mg "isinstance" = none) (hgy : Gl X y) (hmy : X.mg y = none) (hb : bootBuiltins "isinstance" = some (.builtin "isinstance")) (hby : bootBuiltins y = some (.type c))
    (ha : PE X e (tD (gx X T) W a)) (hny : y ≠ "__name__" := by decide) (hdy : (y == ("__debug__" : Str)) = false := by decide)
    (he : starEach [e, .Name y p2] X.env = (false, eval e X.env) :: starEach [.Name y p2] X.env := by rfl) (hpl : (backTo pos (starEach [.Name y p2] X.env)).any (·.1) = false := by rfl) :
    PE X (.Call (.Name "isinstance" p) [e, .Name y p2] [] pos) (tD (gx X T) W (dIsi c a)) := by
  refine (pe_callB call_isi hg hm hb (pa_cons ha (pa_cons (pe_bltn (v := .ty c) (u := .type c) hgy hmy hby rfl hny hdy) pa_nil) he) (by decide) (by decide) he hpl).imp fun σ H Q ⟨ε, μ, S, sr, hs, h⟩ => ?_
  refine ⟨ε, μ, S, sr, hs, (wR.bind (Rl := rlV (gx X T)) sr h).imp fun v H1 ⟨d, μ1, S1, g1, hs1, sr1, r1, h1⟩ => ?_⟩
  split at h1
  · rename_i b hb'
    unfold isiD at hb'
    split at hb'
    · rename_i t ht
      exact ⟨_, _, _, _, b, rfl, .ty c, ty_of hs1 r1 ht, kit_ty hb', wR.here hs1 h1 (.bl _)⟩
    · cases hb'
  · exact h1.elim
end
end DL

set_option Elab.async false
set_option linter.all false
set_option maxRecDepth 100000
set_option maxHeartbeats 1000000
namespace L2
open PySem PySem.Spec PyProof.Rows
section
end
end L2
namespace DL
open PySem L2
section
variable {X : Cx} {T : Gt} {W : WX}
def valD {κ : Type} [DecidableEq κ] (kvs : List (κ × D)) (k : κ) : Option D := (kvs.find? fun kv => decide (kv.1 = k)).map (·.2)
def putD {κ : Type} [DecidableEq κ] (kvs : List (κ × D)) (k : κ) (v : D) : List (κ × D) :=
  if (kvs.any fun kv => decide (kv.1 = k)) = true then kvs.map (fun kv => if kv.1 = k then (kv.1, v) else kv) else kvs ++ [(k, v)]
section
variable {κ : Type} [DecidableEq κ] {K : PySem.W.Frag} {μ : List Addr} {H : Hp}
theorem RKs.val {ws : List (κ × V)} {ds : List (κ × D)} (r : RKs K μ H ws ds) (k : κ) : (valV ws k = none ∧ valD ds k = none) ∨ ∃ v d, valV ws k = some v ∧ valD ds k = some d ∧ RV K μ H v d := by
  induction r with
  | nil => exact .inl ⟨rfl, rfl⟩
  | @cons k' v vs d ds h t ih =>
    by_cases e : k' = k
    · exact .inr ⟨v, d, by simp [valV, List.find?_cons, e], by simp [valD, List.find?_cons, e], h⟩
    · have e1 : valV ((k', v) :: vs) k = valV vs k := by simp [valV, List.find?_cons, e]
      have e2 : valD ((k', d) :: ds) k = valD ds k := by simp [valD, List.find?_cons, e]
      rw [e1, e2]
      exact ih
theorem RKs.any {ws : List (κ × V)} {ds : List (κ × D)} (r : RKs K μ H ws ds) (k : κ) : (ws.any fun kv => decide (kv.1 = k)) = (ds.any fun kv => decide (kv.1 = k)) := by
  induction r with
  | nil => rfl
  | cons h t ih => rw [List.any_cons, List.any_cons, ih]
theorem RKs.append {ws ws' : List (κ × V)} {ds ds' : List (κ × D)} (r : RKs K μ H ws ds) (r' : RKs K μ H ws' ds') : RKs K μ H (ws ++ ws') (ds ++ ds') := by
  induction r with
  | nil => exact r'
  | cons h t ih => exact .cons h ih
theorem RKs.mapPut {ws : List (κ × V)} {ds : List (κ × D)} (r : RKs K μ H ws ds) (k : κ) {v : V} {d : D} (rv : RV K μ H v d) : RKs K μ H (ws.map fun kv => if kv.1 = k then (kv.1, v) else kv) (ds.map fun kv => if kv.1 = k then (kv.1, d) else kv) := by
  induction r with
  | nil => exact .nil
  | @cons k' v' vs d' ds h t ih =>
    rw [List.map_cons, List.map_cons]
    by_cases e : k' = k
    · simp only [e, if_true]
      exact .cons rv ih
    · simp only [e, if_false]
      exact .cons h ih
theorem RKs.put {ws : List (κ × V)} {ds : List (κ × D)} (r : RKs K μ H ws ds) (k : κ) {v : V} {d : D} (rv : RV K μ H v d) : RKs K μ H (putK ws k v) (putD ds k d) := by
  unfold putK putD
  rw [r.any k]
  split
  · exact r.mapPut k rv
  · exact r.append (.cons rv .nil)
end
def keyD : D → Option Key
  | .int i => some (.inl i)
  | .str x => some (.inr x)
  | _ => none
theorem key_of {K : PySem.W.Frag} {μ : List Addr} {H : Hp} {v : V} {d : D} {k : Key} (r : RV K μ H v d) (e : keyD d = some k) : v = kV k := by
  cases r <;> cases e <;> rfl
def dctAt (S : Sto) : D → Option (Nat × List (Key × D))
  | .ref n => match S[n]? with
    | some (.dct kvs) => some (n, kvs)
    | _ => none
  | _ => none
theorem dctAt_of {G : Gc} {μ : List Addr} {S : Sto} {H : Hp} (hs : HS G μ S H) {v : V} {d : D} {n : Nat} {kvs : List (Key × D)} (r : RV G.K μ H v d) (e : dctAt S d = some (n, kvs)) : ∃ a ws, v = .ref a ∧ μ[n]? = some a ∧ H a = some (.dK ws) ∧ RKs G.K μ H ws kvs := by
  cases r with
  | ref q =>
    simp only [dctAt] at e
    split at e
    · cases e
      exact hs.dct (RV.ref q) ‹_›
    · cases e
  | _ => cases e
def dGetI (a b : Den) : Den := fun ε S => (a ε S).bind fun d S => (b ε S).bind fun k S => match dctAt S d, keyD k with
  | some (_, kvs), some k => (match valD kvs k with
    | some v => .ok v S
    | none => .bad)
  | _, _ => .bad
def dGet2 (a b c : Den) : Den := fun ε S => (a ε S).bind fun d S => match dctAt S d with
  | some _ => (b ε S).bind fun k S => (c ε S).bind fun x S => (match dctAt S d, keyD k with
    | some (_, kvs), some k => .ok ((valD kvs k).getD x) S
    | _, _ => .bad)
  | none => .bad
theorem pd_dget {o i : Expr} {a b : Den} {pos : Pos} (hu : X.A.units + 1 < cLine) (ha : PE X o (tD (gx X T) W a)) (hb : PE X i (tD (gx X T) W b)) (hn : NoSl i := by exact fun _ _ => rfl) : PE X (.Subscript o i pos) (tD (gx X T) W (dGetI a b)) :=
  (pe_dget hu ha hb hn).imp fun σ H Q ⟨ε, μ, S, sr, hs, h⟩ => ⟨ε, μ, S, sr, hs, (wR.bind (Rl := rlV (gx X T)) sr h).imp fun v H1 ⟨d, μ1, S1, g1, hs1, sr1, r1, h1⟩ =>
    ⟨ε, μ1, S1, sr1, hs1, (wR.bind (Rl := rlV (gx X T)) sr1 h1).imp fun w H2 ⟨e, μ2, S2, g2, hs2, sr2, r2, h2⟩ => by
      split at h2
      · rename_i n kvs k hd hk
        split at h2
        · rename_i x hv
          obtain ⟨p, ws, rfl, en, hp, rk⟩ := dctAt_of hs2 (RV.mono g2 r1) hd
          have ek := key_of r2 hk
          subst ek
          rcases rk.val k with ⟨_, q⟩ | ⟨v', d', q1, q2, q3⟩
          · rw [hv] at q
            cases q
          · rw [hv] at q2
            cases q2
            refine ⟨p, v', rfl, ?_, wR.here hs2 h2 q3⟩
            rw [← q1]
            exact DGet.k hp
        · exact h2.elim
      · exact h2.elim⟩⟩
def putFD (f : Str) (v : D) : List (Str × D) → List (Str × D)
  | [] => [(f, v)]
  | (g, x) :: r => if g = f then (g, v) :: r else (g, x) :: putFD f v r
def insAt (S : Sto) : D → Option (Nat × Str × List (Str × D))
  | .ref n => match S[n]? with
    | some (.ins c fs) => some (n, c, fs)
    | _ => none
  | _ => none
def dFld (f : Str) (a : Den) : Den := fun ε S => (a ε S).bind fun d S => match insAt S d with
  | some (_, _, fs) => (match fs.lookup f with
    | some v => .ok v S
    | none => .bad)
  | none => .bad
def wF (G : Gc) (E : XK) (r : R D) (μ : List Addr) (H : Hp) (Q : VK) : Prop :=
  match r with
  | .ok d S' => ∀ v μ' H', Gr μ H μ' H' → HS G μ' S' H' → RV G.K μ' H' v d → Q v H'
  | .exc c S' => ∀ C μ' H', G.xA c = some C → Gr μ H μ' H' → HS G μ' S' H' → E (.ref C) none H'
  | .bad => False
def spD (G : Gc) (np : Nat) (F : Fn) : Sp := fun vs H Q E => ∃ μ S ds, vs.length = np ∧ HS G μ S H ∧ RVs G.K μ H vs ds ∧ wF G E (F ds S) μ H Q
theorem wR.toF {G : Gc} {r : R D} {σ : L2.St} {μ : List Addr} {H : Hp} {Q : VK} (h : wR G W (rlV G) r σ μ H Q) : wF G (WE W σ) r μ H Q := by
  cases r with
  | ok d S' => exact h
  | exc c S' => exact h
  | bad => exact h
def dCall (np : Nat) (F : Fn) (a : DenA) : Den := fun ε S => (a ε S).bind fun ds S => if ds.length = np then F ds S else .bad
abbrev CXo (X : Cx) : CXT := L2.CX X.prog X.w
section
variable {k np : Nat} {f C : Addr} {fd : FuncData} {ps : List Str} {F : Fn} {x m c : Str} {p pos apos : Pos} {e o : Expr} {es : List Expr} {a : DenA} {da : Den}
theorem pd_call (G : FnOk X.prog X.w X.K X.mg X.base (CXo X) k f fd ps (spD (gx X T) np F)) (hr : Room k X.A) (hg : Gl X x) (hm : X.mg x = some (.ref f)) (hk : PySem.W.keepIn X.K (.ref f) = true) (hb : Binds X.K fd ps []) (tk : Takes X W)
    (ha : PA X (e :: es) (tDA (gx X T) W a)) (hdb : (x == ("__debug__" : Str)) = false := by decide) (he : starEach (e :: es) X.env = (false, eval e X.env) :: starEach es X.env := by rfl) (hpl : (backTo pos (starEach es X.env)).any (·.1) = false := by rfl) :
    PE X (.Call (.Name x p) (e :: es) [] pos) (tD (gx X T) W (dCall np F a)) :=
  (pe_callS G hr hg hm hk hb (E := WE W) (fun σ => passAt tk σ) ha hdb he hpl).imp fun σ H Q ⟨ε, μ, S, sr, hs, h⟩ => ⟨ε, μ, S, sr, hs, (wR.bind (Rl := rlA (gx X T)) sr h).imp fun vs H1 ⟨ds, μ1, S1, g1, hs1, sr1, r1, h1⟩ => by
    split at h1
    · rename_i hn
      exact ⟨μ1, S1, ds, (RVs.length r1).trans hn, hs1, r1, h1.toF⟩
    · exact h1.elim⟩
def dMeth (c m : Str) (np : Nat) (F : Fn) (o : Den) (a : DenA) : Den := fun ε S => (o ε S).bind fun d S => match insAt S d with
  | some (_, c', fs) => if c' = c ∧ fs.lookup m = none then (a ε S).bind fun ds S => (if ds.length + 1 = np then F (d :: ds) S else .bad) else .bad
  | none => .bad
end
end
end DL

set_option Elab.async false
set_option linter.all false
set_option maxRecDepth 100000
set_option maxHeartbeats 1000000
namespace DL
open PySem L2
inductive Fl where
  | nx (ε : Env) | rt (d : D) | bk (ε : Env) | ct (ε : Env) | ex (c : Str) (ε : Env)
abbrev SDen := Env → Sto → R Fl
def wS (G : Gc) (W : WX) (r : R Fl) (μ : List Addr) (H : Hp) (N : Ends) : Prop :=
  match r with
  | .ok (.nx ε) S' => ∀ σ' μ' H', Gr μ H μ' H' → HS G μ' S' H' → SR G.K μ' H' σ' ε → N.nx σ' H'
  | .ok (.rt d) S' => ∀ v μ' H', Gr μ H μ' H' → HS G μ' S' H' → RV G.K μ' H' v d → N.rt v H'
  | .ok (.bk ε) S' => ∀ σ' μ' H', Gr μ H μ' H' → HS G μ' S' H' → SR G.K μ' H' σ' ε → N.bk σ' H'
  | .ok (.ct ε) S' => ∀ σ' μ' H', Gr μ H μ' H' → HS G μ' S' H' → SR G.K μ' H' σ' ε → N.ct σ' H'
  | .ok (.ex c ε) S' => ∀ C σ' μ' H', G.xA c = some C → Gr μ H μ' H' → HS G μ' S' H' → SR G.K μ' H' σ' ε → W (.ref C) none σ' H'
  | .exc _ _ => False
  | .bad => False
def tS (G : Gc) (W : WX) (den : SDen) : TS := fun N σ H => ∃ ε μ S, SR G.K μ H σ ε ∧ HS G μ S H ∧ wS G W (den ε S) μ H N
theorem _root_.L2.PS.imp {X : Cx} {st : Stmt} {t t' : TS} (h : PS X st t) (q : ∀ N σ H, t' N σ H → t N σ H) : PS X st t' := ⟨fun pins s σ H N I z => h.run pins s σ H N I (q _ _ _ z)⟩
theorem _root_.L2.PSs.imp {X : Cx} {st : List Stmt} {t t' : TS} (h : PSs X st t) (q : ∀ N σ H, t' N σ H → t N σ H) : PSs X st t' := ⟨fun pins s σ H N I z => h.run pins s σ H N I (q _ _ _ z)⟩
theorem _root_.L2.PG.imp {X : Cx} {e : Expr} {t t' : TG} (h : PG X e t) (q : ∀ v σ H Q, t' v σ H Q → t v σ H Q) : PG X e t' := ⟨fun pins s σ H v u Q I r z => h.run pins s σ H v u Q I r (q _ _ _ _ z)⟩
theorem _root_.L2.PGs.imp {X : Cx} {e : List Expr} {t t' : TGs} (h : PGs X e t) (q : ∀ v σ H Q, t' v σ H Q → t v σ H Q) : PGs X e t' := ⟨fun pins s σ H v u Q I r z => h.run pins s σ H v u Q I r (q _ _ _ _ z)⟩
theorem _root_.L2.PTs.imp {X : Cx} {e : List Expr} {t t' : TT} (h : PTs X e t) (q : ∀ σ H Q, t' σ H Q → t σ H Q) : PTs X e t' := ⟨fun pins s σ H Q I z => h.run pins s σ H Q I (q _ _ _ z)⟩
theorem _root_.L2.PI.imp {X : Cx} {tg e : Expr} {t t' : TI} (h : PI X tg e t) (q : ∀ σ H Q, t' σ H Q → t σ H Q) : PI X tg e t' := ⟨fun pins s σ H Q I z => h.run pins s σ H Q I (q _ _ _ z)⟩

def sE {α : Type} (r : R α) (ε : Env) (k : α → Sto → R Fl) : R Fl := match r with
  | .ok d S => k d S
  | .exc c S => .ok (.ex c ε) S
  | .bad => .bad
def sN (r : R Fl) (k : Env → Sto → R Fl) : R Fl := match r with
  | .ok (.nx ε) S => k ε S
  | r => r
section
variable {G : Gc} {W : WX} {α β : Type} {Rl : List Addr → Hp → β → α → Prop} {σ : L2.St} {ε : Env} {μ μ1 : List Addr} {H H1 : Hp} {S : Sto} {N : Ends}
theorem wS.up {r : R Fl} (g : Gr μ H μ1 H1) (h : wS G W r μ H N) : wS G W r μ1 H1 N := by
  cases r with
  | ok f S' =>
    cases f with
    | nx ε => exact fun σ' μ' H' g' => h σ' μ' H' (g.trans g')
    | rt d => exact fun σ' μ' H' g' => h σ' μ' H' (g.trans g')
    | bk ε => exact fun σ' μ' H' g' => h σ' μ' H' (g.trans g')
    | ct ε => exact fun σ' μ' H' g' => h σ' μ' H' (g.trans g')
    | ex c ε => exact fun C σ' μ' H' e g' => h C σ' μ' H' e (g.trans g')
  | exc c S' => exact h
  | bad => exact h
theorem wS.bind {r : R α} {k : α → Sto → R Fl} (sr : SR G.K μ H σ ε) (h : wS G W (sE r ε k) μ H N) :
    wR G W Rl r σ μ H fun v H1 => ∃ d μ1 S1, Gr μ H μ1 H1 ∧ HS G μ1 S1 H1 ∧ SR G.K μ1 H1 σ ε ∧ Rl μ1 H1 v d ∧ wS G W (k d S1) μ1 H1 N := by
  cases r with
  | ok d S' => exact fun v μ' H' g hs rl => ⟨d, μ', S', g, hs, sr.mono g, rl, wS.up g h⟩
  | exc c S' => exact fun C μ' H' e g hs => h C σ μ' H' e g hs (sr.mono g)
  | bad => exact h
end
section
variable {X : Cx} {T : Gt} {W : WX}
abbrev GDen := D → Env → Sto → Option Env
abbrev GDens := List D → Env → Sto → Option Env
def tG (G : Gc) (js : List Nat) (g : GDen) : TG := fun v σ H Q => ∃ ε μ S d ε', SR G.K μ H σ ε ∧ HS G μ S H ∧ RV G.K μ H v d ∧ g d ε S = some ε' ∧ ∀ σ', SR G.K μ H σ' ε' → σ'.length = σ.length → (∀ j, j ∉ js → σ'[j]? = σ[j]?) → Q σ' H
def tGs (G : Gc) (js : List Nat) (g : GDens) : TGs := fun v σ H Q => ∃ ε μ S d ε', SR G.K μ H σ ε ∧ HS G μ S H ∧ RVs G.K μ H v d ∧ g d ε S = some ε' ∧ ∀ σ', SR G.K μ H σ' ε' → σ'.length = σ.length → (∀ j, j ∉ js → σ'[j]? = σ[j]?) → Q σ' H
def gN (i : Nat) : GDen := fun d ε _ => some (ε.set i (some d))
def gsNil : GDens := fun ds ε _ => match ds with
  | [] => some ε
  | _ => none
def gsCons (g : GDen) (r : GDens) : GDens := fun ds ε S => match ds with
  | d :: ds => (g d ε S).bind fun ε => r ds ε S
  | [] => none
def gT (n : Nat) (g : GDens) : GDen := fun d ε S => match d with
  | .tup ds => if ds.length = n then g ds ε S else none
  | _ => none
theorem pgd_name (i : Nat) {x : Str} {pos : Pos} (hN : X.N.Nodup) (hi : X.N[i]? = some x := by rfl) (hx : Loc X.env.scope x := by first | exact Or.inl rfl | exact Or.inr rfl) (hf : X.fn x = true ∨ X.env.scope.names.lookup x = some .local := by first | exact .inl rfl | exact .inr rfl) : PG X (.Name x pos) (tG (gx X T) [i] (gN i)) :=
  (pg_name hN hi hx hf).imp fun v σ H Q ⟨ε, μ, S, d, ε', sr, hs, r, e, q⟩ => by
    cases e
    refine q _ (sr.set r i) (by simp) fun j hj => ?_
    rw [List.getElem?_set_ne]
    rintro rfl
    exact hj (by simp)
theorem pgd_nil : PGs X [] (tGs (gx X T) [] gsNil) := pgs_nil.imp fun v σ H Q ⟨ε, μ, S, d, ε', sr, hs, r, e, q⟩ => by
  cases r with
  | nil => cases e; exact ⟨rfl, q σ sr rfl fun _ _ => rfl⟩
  | cons _ _ => cases e
theorem pgd_cons {e : Expr} {es : List Expr} {js ks : List Nat} {g : GDen} {r : GDens} (h1 : PG X e (tG (gx X T) js g)) (h2 : PGs X es (tGs (gx X T) ks r)) (hs : (assignEach (e :: es) X.env).map (·.2) = assign e X.env :: (assignEach es X.env).map (·.2) := by rfl) :
    PGs X (e :: es) (tGs (gx X T) (js ++ ks) (gsCons g r)) := (pgs_cons h1 h2 hs).imp fun v σ H Q ⟨ε, μ, S, d, ε', sr, hs, r, e, q⟩ => by
  cases r with
  | nil => cases e
  | cons h t =>
    obtain ⟨ε1, e1, e2⟩ := Option.bind_eq_some_iff.mp e
    refine ⟨_, _, rfl, ε, μ, S, _, ε1, sr, hs, h, e1, fun σ1 sr1 l1 k1 => ?_⟩
    refine ⟨ε1, μ, S, _, ε', sr1, hs, t, e2, fun σ2 sr2 l2 k2 => q σ2 sr2 (l2.trans l1) fun j hj => ?_⟩
    rw [List.mem_append, not_or] at hj
    rw [k2 j hj.2, k1 j hj.1]
theorem pgd_tup {es : List Expr} {k n : Nat} {js : List Nat} {pos : Pos} {g : GDens} (hc : X.calm = true) (h : PGs X es (tGs (gx X T) js g)) (hn : (assignEach es X.env).length = n := by rfl) (hst : (assignEach es X.env).findIdx? (·.1) = none := by rfl) :
    PG X (.Tuple es k pos) (tG (gx X T) js (gT n g)) := (pg_tup hc h hn hst).imp fun v σ H Q ⟨ε, μ, S, d, ε', sr, hs, r, e, q⟩ => by
  unfold gT at e
  split at e
  · split at e
    · cases r with
      | tup t _ rs => exact ⟨_, _, rfl, t.sq, by rw [RVs.length rs]; assumption, ε, μ, S, _, ε', sr, hs, rs, e, q⟩
    · cases e
  · cases e
def sNil : SDen := fun ε S => .ok (.nx ε) S
def sSeq (a b : SDen) : SDen := fun ε S => sN (a ε S) b
theorem pssd_nil : PSs X [] (tS (gx X T) W sNil) := pss_nil.imp fun N σ H ⟨ε, μ, S, sr, hs, h⟩ => h σ μ H Gr.refl hs sr
theorem seq_to {a b : SDen} : ∀ N σ H, tS (gx X T) W (sSeq a b) N σ H → tSeq (tS (gx X T) W a) (tS (gx X T) W b) N σ H := fun N σ H ⟨ε, μ, S, sr, hs, h⟩ => by
  refine ⟨ε, μ, S, sr, hs, ?_⟩
  unfold sSeq at h
  cases e : a ε S with
  | ok f S' =>
    rw [e] at h
    cases f with
    | nx ε1 => exact fun σ' μ' H' g hs' sr' => ⟨ε1, μ', S', sr', hs', wS.up g h⟩
    | rt d => exact h
    | bk ε => exact h
    | ct ε => exact h
    | ex c ε => exact h
  | exc c S' => rw [e] at h; exact h
  | bad => rw [e] at h; exact h
theorem pssd_cons {st : Stmt} {rest : List Stmt} {a b : SDen} (h1 : PS X st (tS (gx X T) W a)) (h2 : PSs X rest (tS (gx X T) W b)) : PSs X (st :: rest) (tS (gx X T) W (sSeq a b)) := (pss_cons h1 h2).imp seq_to
theorem pssd_one {st : Stmt} {a : SDen} (h1 : PS X st (tS (gx X T) W a)) : PSs X [st] (tS (gx X T) W a) := pss_one h1
def sRet (a : Den) : SDen := fun ε S => sE (a ε S) ε fun d S => .ok (.rt d) S
theorem psd_ret {e : Expr} {a : Den} {pos : Pos} (ha : PE X e (tD (gx X T) W a)) : PS X (.Return (some e) pos) (tS (gx X T) W (sRet a)) :=
  (ps_ret ha).imp fun N σ H ⟨ε, μ, S, sr, hs, h⟩ => ⟨ε, μ, S, sr, hs, (wS.bind (Rl := rlV (gx X T)) sr h).imp fun v H1 ⟨d, μ1, S1, g1, hs1, sr1, r1, h1⟩ => h1 v μ1 H1 Gr.refl hs1 r1⟩
def sExpr (a : Den) : SDen := fun ε S => sE (a ε S) ε fun _ S => .ok (.nx ε) S
theorem psd_expr {e : Expr} {a : Den} {pos : Pos} (ha : PE X e (tD (gx X T) W a)) (hs : swapsWith e none pos.line X.env = pure false := by rfl) : PS X (.Expr e pos) (tS (gx X T) W (sExpr a)) :=
  (ps_expr ha hs).imp fun N σ H ⟨ε, μ, S, sr, hs, h⟩ => ⟨ε, μ, S, sr, hs, (wS.bind (Rl := rlV (gx X T)) sr h).imp fun v H1 ⟨d, μ1, S1, g1, hs1, sr1, r1, h1⟩ => h1 σ μ1 H1 Gr.refl hs1 sr1⟩
def sAsg (a : Den) (g : GDen) : SDen := fun ε S => sE (a ε S) ε fun d S => match g d ε S with
  | some ε' => .ok (.nx ε') S
  | none => .bad
theorem asg_to {te : TE} {a : Den} {js : List Nat} {g : GDen} {tg' : TG} (h0 : ∀ σ H Q, tD (gx X T) W a σ H Q → te σ H Q) (h1 : ∀ v σ H Q, tG (gx X T) js g v σ H Q → tg' v σ H Q) : ∀ N σ H, tS (gx X T) W (sAsg a g) N σ H → tAsg te tg' N σ H := fun N σ H ⟨ε, μ, S, sr, hs, h⟩ =>
  h0 _ _ _ ⟨ε, μ, S, sr, hs, (wS.bind (Rl := rlV (gx X T)) sr h).imp fun v H1 ⟨d, μ1, S1, g1, hs1, sr1, r1, h2⟩ => by
    split at h2
    · exact h1 _ _ _ _ ⟨ε, μ1, S1, d, _, sr1, hs1, r1, ‹_›, fun σ' sr' _ _ => h2 σ' μ1 H1 Gr.refl hs1 sr'⟩
    · exact h2.elim⟩
theorem psd_asg {tg e : Expr} {a : Den} {js : List Nat} {g : GDen} {pos : Pos} (ha : PE X e (tD (gx X T) W a)) (hg : PG X tg (tG (gx X T) js g)) (hs : swapsWithSole [tg] e pos.line X.env = pure false := by rfl) (hw : swappedStores [tg] e X.env = pure none := by rfl)
    (h1 : (assignEach [tg] X.env).map (·.2) = [assign tg X.env] := by rfl) : PS X (.Assign [tg] e pos) (tS (gx X T) W (sAsg a g)) :=
  (ps_asg ha hg hs hw h1).imp (asg_to (fun _ _ _ h => h) fun _ _ _ _ h => h)
def sIf (c : DenB) (a b : SDen) : SDen := fun ε S => sE (c ε S) ε fun k S => if k = true then a ε S else b ε S
theorem psd_if {c : Expr} {u v : List Stmt} {bc : DenB} {a b : SDen} {pos : Pos} (hc : PT X c (tDB (gx X T) W bc)) (ha : PSs X u (tS (gx X T) W a)) (hb : PSs X v (tS (gx X T) W b)) : PS X (.If c u v pos) (tS (gx X T) W (sIf bc a b)) :=
  (ps_if hc ha hb).imp fun N σ H ⟨ε, μ, S, sr, hs, h⟩ => ⟨ε, μ, S, sr, hs, (wS.bind (Rl := rlB) sr h).imp fun v H1 ⟨d, μ1, S1, g1, hs1, sr1, r1, h1⟩ => by
    have r1 : v = d := r1
    subst r1
    cases v with
    | true => exact ⟨ε, μ1, S1, sr1, hs1, h1⟩
    | false => exact ⟨ε, μ1, S1, sr1, hs1, h1⟩⟩
def sFldD (f : Str) (v o : Den) : SDen := fun ε S => sE (v ε S) ε fun d S => sE (o ε S) ε fun x S => match insAt S x with
  | some (n, c, fs) => if fs.length < 1000 then .ok (.nx ε) (S.set n (.ins c (putFD f d fs))) else .bad
  | none => .bad
def sDPutD (d k v : Den) : SDen := fun ε S => sE (v ε S) ε fun x S => sE (d ε S) ε fun o S => sE (k ε S) ε fun y S => match dctAt S o, keyD y with
  | some (n, kvs), some j => if kvs.length < big then .ok (.nx ε) (S.set n (.dct (putD kvs j x))) else .bad
  | _, _ => .bad
theorem psd_dput {o i value : Expr} {pos pos' : Pos} {d k v : Den} (hu : X.A.units + 1 < cLine) (ho : PE X o (tD (gx X T) W d)) (hi : PE X i (tD (gx X T) W k)) (hv : PE X value (tD (gx X T) W v)) (hsw : swapsWith value (some (.Subscript o i pos')) pos.line X.env = pure false := by rfl) :
    PS X (.Assign [.Subscript o i pos'] value pos) (tS (gx X T) W (sDPutD d k v)) :=
  (ps_dput hu ho hi hv hsw).imp fun N σ H ⟨ε, μ, S, sr, hs, h⟩ => ⟨ε, μ, S, sr, hs, (wS.bind (Rl := rlV (gx X T)) sr h).imp fun v H1 ⟨x, μ1, S1, g1, hs1, sr1, r1, h1⟩ =>
    ⟨ε, μ1, S1, sr1, hs1, (wS.bind (Rl := rlV (gx X T)) sr1 h1).imp fun w H2 ⟨o, μ2, S2, g2, hs2, sr2, r2, h2⟩ =>
      ⟨ε, μ2, S2, sr2, hs2, (wS.bind (Rl := rlV (gx X T)) sr2 h2).imp fun u H3 ⟨y, μ3, S3, g3, hs3, sr3, r3, h3⟩ => by
        split at h3
        · rename_i n kvs j hd hk
          split at h3
          · obtain ⟨p, ws, rfl, en, hp, rk⟩ := dctAt_of hs3 (RV.mono g3 r2) hd
            have ek := key_of r3 hk
            subst ek
            have g4 : Gr μ3 H3 μ3 (upd H3 p (.dK (putK ws j v))) := Gr.write (List.mem_of_getElem? en)
            refine ⟨p, _, rfl, DPut.k hp (by rw [rk.length]; exact big_lt (Nat.le_of_lt ‹_›)), h3 σ μ3 _ g4 (hs3.put en ⟨_, upd_same, ?_⟩) (sr3.mono g4)⟩
            exact (rk.mono g4).put j (((RV.mono g2 r1).mono g3).mono g4)
          · exact h3.elim
        · exact h3.elim⟩⟩⟩
def sLPutD (l k v : Den) : SDen := fun ε S => sE (v ε S) ε fun x S => sE (l ε S) ε fun o S => sE (k ε S) ε fun y S => match o, y with
  | .ref n, .int i => (match S[n]? with
    | some (.lst ds) => (match ixN ds.length i with
      | some j => .ok (.nx ε) (S.set n (.lst (ds.set j x)))
      | none => .bad)
    | _ => .bad)
  | _, _ => .bad
theorem psd_lput {o i value : Expr} {pos pos' : Pos} {l k v : Den} (ho : PE X o (tD (gx X T) W l)) (hi : PE X i (tD (gx X T) W k)) (hv : PE X value (tD (gx X T) W v))
    (hs : swapsWithSole [.Subscript o i pos'] value pos.line X.env = pure false := by rfl) (hw : swappedStores [.Subscript o i pos'] value X.env = pure none := by rfl)
    (h1 : (assignEach [.Subscript o i pos'] X.env).map (·.2) = [assign (.Subscript o i pos') X.env] := by rfl)
    (h2 : ∀ v, assign (.Subscript o i pos') X.env v = (do
        let ov ← holding [v] (eval o X.env)
        let iv ← holding [v, ov] (eval i X.env)
        standAt pos'
        holding [v, ov, iv] (setItem ov iv v)
        release [v, ov, iv] []) := by intro _; rfl) :
    PS X (.Assign [.Subscript o i pos'] value pos) (tS (gx X T) W (sLPutD l k v)) :=
  (ps_asg hv (pg_sub ho hi set_list h2) hs hw h1).imp fun N σ H ⟨ε, μ, S, sr, hs, h⟩ => ⟨ε, μ, S, sr, hs, (wS.bind (Rl := rlV (gx X T)) sr h).imp fun v H1 ⟨x, μ1, S1, g1, hs1, sr1, r1, h1⟩ =>
    ⟨ε, μ1, S1, sr1, hs1, (wS.bind (Rl := rlV (gx X T)) sr1 h1).imp fun w H2 ⟨o, μ2, S2, g2, hs2, sr2, r2, h2⟩ =>
      ⟨ε, μ2, S2, sr2, hs2, (wS.bind (Rl := rlV (gx X T)) sr2 h2).imp fun u H3 ⟨y, μ3, S3, g3, hs3, sr3, r3, h3⟩ => by
        split at h3
        · split at h3
          · split at h3
            · rename_i j hj
              obtain ⟨p, xs, rfl, en, hp, rs⟩ := hs3.lst (RV.mono g3 r2) ‹_›
              have r3 : RV X.K μ3 H3 u (.int _) := r3
              cases r3
              have g4 : Gr μ3 H3 μ3 (upd H3 p (.lst (xs.set j v))) := Gr.write (List.mem_of_getElem? en)
              refine ⟨p, xs, _, _, rfl, rfl, hp, by rw [RVs.length rs]; exact hj, h3 σ μ3 _ g4 (hs3.put en ⟨_, upd_same, ?_⟩) (sr3.mono g4)⟩
              exact (rs.mono g4).set (((RV.mono g2 r1).mono g3).mono g4) _
            · exact h3.elim
          · exact h3.elim
        · exact h3.elim⟩⟩⟩
abbrev Src := Sto → Option (List D)
def Sim (G : Gc) (J : It) (src : Src) (μ : List Addr) (H : Hp) : Prop := ∀ i μ' H' S' ds, Gr μ H μ' H' → HS G μ' S' H' → src S' = some ds →
  (ds[i]? = none → J.stop i H') ∧ ∀ d, ds[i]? = some d → J.go i H' ∧ ∀ x H'', J.yld i H' x H'' → Gr μ' H' μ' H'' ∧ HS G μ' S' H'' ∧ RV G.K μ' H'' x d
def rlI (G : Gc) : List Addr → Hp → It → Src → Prop := fun μ H J src => Sim G J src μ H
abbrev IDen := Env → Sto → R Src
abbrev tIt (G : Gc) (W : WX) (den : IDen) : TI := tR G W (rlI G) den
theorem Sim.up {G : Gc} {J : It} {src : Src} {μ μ1 : List Addr} {H H1 : Hp} (g : Gr μ H μ1 H1) (h : Sim G J src μ H) : Sim G J src μ1 H1 := fun i μ' H' S' ds g' => h i μ' H' S' ds (g.trans g')
theorem sim_seq {G : Gc} {μ : List Addr} {S : Sto} {H : Hp} {a : Addr} {d : D} (r : RV G.K μ H (.ref a) d) : Sim G (Itl G.K a) (fun S => litems S d) μ H := fun i μ' H' S' ds g hs e => by
  obtain ⟨a', xs, ev, hq, rs⟩ := litems_of hs (r.mono g) e
  cases ev
  refine ⟨fun hn => ⟨xs, hq, ?_⟩, fun d hd => ?_⟩
  · rw [RVs.length rs]
    exact List.getElem?_eq_none_iff.mp hn
  · obtain ⟨v, hv, rv⟩ := RVs.get rs hd
    refine ⟨⟨xs, v, hq, hv⟩, fun x H'' ⟨eh, hx⟩ => ?_⟩
    subst eh
    rw [hx xs hq] at hv
    cases hv
    exact ⟨Gr.refl, hs, rv⟩
theorem sim_tup {G : Gc} {μ : List Addr} {H : Hp} {a : Addr} {ds : List D} (r : RV G.K μ H (.ref a) (.tup ds)) : Sim G (Itt G.K a) (fun _ => some ds) μ H := fun i μ' H' S' es g hs e => by
  cases e
  have r' := r.mono g
  cases r' with
  | tup t _ rs =>
    refine ⟨fun hn => ⟨_, t.sq, ?_⟩, fun d hd => ?_⟩
    · rw [RVs.length rs]
      exact List.getElem?_eq_none_iff.mp hn
    · obtain ⟨v, hv, rv⟩ := RVs.get rs hd
      refine ⟨⟨_, v, t.sq, hv⟩, fun x H'' ⟨eh, hx⟩ => ?_⟩
      subst eh
      rw [hx _ t.sq] at hv
      cases hv
      exact ⟨Gr.refl, hs, rv⟩
def iSeq (a : Den) : IDen := fun ε S => (a ε S).bind fun d S => match litems S d with
  | some _ => .ok (fun S => litems S d) S
  | none => .bad
theorem pid_seq {tg e : Expr} {a : Den} (ha : PE X e (tD (gx X T) W a)) : PI X tg e (tIt (gx X T) W (iSeq a)) :=
  (pi_list ha).imp fun σ H Q ⟨ε, μ, S, sr, hs, h⟩ => ⟨ε, μ, S, sr, hs, (wR.bind (Rl := rlV (gx X T)) sr h).imp fun v H1 ⟨d, μ1, S1, g1, hs1, sr1, r1, h1⟩ => by
    split at h1
    · obtain ⟨a, xs, rfl, hq, rs⟩ := litems_of hs1 r1 ‹_›
      exact ⟨a, rfl, ⟨xs, hq⟩, wR.here hs1 h1 (sim_seq (G := gx X T) (S := S1) r1)⟩
    · exact h1.elim⟩
def iTupD (a : Den) : IDen := fun ε S => (a ε S).bind fun d S => match d with
  | .tup ds => .ok (fun _ => some ds) S
  | _ => .bad
theorem pid_tup {tg e : Expr} {a : Den} (ha : PE X e (tD (gx X T) W a)) : PI X tg e (tIt (gx X T) W (iTupD a)) :=
  (pi_tup ha).imp fun σ H Q ⟨ε, μ, S, sr, hs, h⟩ => ⟨ε, μ, S, sr, hs, (wR.bind (Rl := rlV (gx X T)) sr h).imp fun v H1 ⟨d, μ1, S1, g1, hs1, sr1, r1, h1⟩ => by
    split at h1
    · have r2 : RV X.K μ1 H1 v (.tup _) := r1
      cases r2 with
      | tup t bt rs => exact ⟨_, rfl, ⟨_, t.sq⟩, wR.here hs1 h1 (sim_tup (G := gx X T) (.tup t bt rs))⟩
    · exact h1.elim⟩
def signs (x : Str) : List D := x.cps.toList.map fun c => .str ⟨#[c]⟩
def iSigns (a : Den) : IDen := fun ε S => (a ε S).bind fun d S => match d with
  | .str x => .ok (fun _ => some (signs x)) S
  | _ => .bad
theorem pid_str {tg e : Expr} {a : Den} (ha : PE X e (tD (gx X T) W a)) : PI X tg e (tIt (gx X T) W (iSigns a)) :=
  (pi_str ha).imp fun σ H Q ⟨ε, μ, S, sr, hs, h⟩ => ⟨ε, μ, S, sr, hs, (wR.bind (Rl := rlV (gx X T)) sr h).imp fun v H1 ⟨d, μ1, S1, g1, hs1, sr1, r1, h1⟩ => by
    split at h1
    · have r2 : RV X.K μ1 H1 v (.str _) := r1
      rename_i x
      cases r2 with
      | str =>
        refine ⟨x, rfl, wR.here hs1 h1 ?_⟩
        intro i μ' H' S' ds g hs' e
        cases e
        have ln : (signs x).length = x.cps.size := by unfold signs; rw [List.length_map, Array.length_toList]
        refine ⟨fun hn => ?_, fun d hd => ?_⟩
        · have q := List.getElem?_eq_none_iff.mp hn
          rw [ln] at q
          exact q
        · have q := (List.getElem?_eq_some_iff.mp hd).1
          rw [ln] at q
          refine ⟨q, fun y H'' ⟨eh, c, hc, ey⟩ => ?_⟩
          subst eh ey
          unfold signs at hd
          rw [List.getElem?_map, Array.getElem?_toList, hc] at hd
          cases hd
          exact ⟨Gr.refl, hs', .str _⟩
    · exact h1.elim⟩
def nums (lo : Int) (n : Nat) : List D := (List.range n).map fun (k : Nat) => D.int (lo + (k : Int))
theorem nums_len (lo : Int) (n : Nat) : (nums lo n).length = n := by unfold nums; rw [List.length_map, List.length_range]
def okR (i : Int) : Prop := -(2 ^ 62) ≤ i ∧ i < 2 ^ 62
instance (i : Int) : Decidable (okR i) := by unfold okR; infer_instance
def iRange1 (a : Den) : IDen := fun ε S => (a ε S).bind fun d S => match d with
  | .int j => if okR j then .ok (fun _ => some (nums 0 j.toNat)) S else .bad
  | _ => .bad
def pairs : List D → List D → List D
  | a :: as, b :: bs => .tup [a, b] :: pairs as bs
  | _, _ => []
theorem pairs_get : ∀ {as bs : List D} {i : Nat} {a b : D}, as[i]? = some a → bs[i]? = some b → (pairs as bs)[i]? = some (.tup [a, b])
  | a :: as, b :: bs, 0, _, _, h1, h2 => by cases h1; cases h2; rfl
  | a :: as, b :: bs, i + 1, _, _, h1, h2 => pairs_get (as := as) (bs := bs) (by simpa using h1) (by simpa using h2)
theorem pairs_at : ∀ {as bs : List D} {i : Nat} {d : D}, (pairs as bs)[i]? = some d → ∃ a b, as[i]? = some a ∧ bs[i]? = some b ∧ d = .tup [a, b]
  | a :: as, b :: bs, 0, _, h => by cases h; exact ⟨a, b, rfl, rfl, rfl⟩
  | a :: as, b :: bs, i + 1, d, h => by
    obtain ⟨x, y, h1, h2, h3⟩ := pairs_at (as := as) (bs := bs) (i := i) (d := d) (by simpa [pairs] using h)
    exact ⟨x, y, by simpa using h1, by simpa using h2, h3⟩
  | [], _, _, _, h => by simp [pairs] at h
  | _ :: _, [], _, _, h => by simp [pairs] at h
theorem pairs_none {as bs : List D} {i : Nat} (h : (pairs as bs)[i]? = none) : as.length ≤ i ∨ bs.length ≤ i := by
  by_cases h1 : i < as.length
  · by_cases h2 : i < bs.length
    · rw [pairs_get (List.getElem?_eq_getElem h1) (List.getElem?_eq_getElem h2)] at h
      cases h
    · exact .inr (Nat.le_of_not_lt h2)
  · exact .inl (Nat.le_of_not_lt h1)
def unt : D → Bool
  | .tup ds => !txts ds
  | _ => false
def iZipD (a b : Den) : IDen := fun ε S => (a ε S).bind fun d S => (b ε S).bind fun e S => match d, e with
  | .tup xs, .tup ys => if (pairs xs ys).all unt = true then .ok (fun _ => some (pairs xs ys)) S else .bad
  | d, e => match litems S d, litems S e with
    | some _, some _ => .ok (fun S => match litems S d, litems S e with
      | some xs, some ys => if (pairs xs ys).all unt = true then some (pairs xs ys) else none
      | _, _ => none) S
    | _, _ => .bad
theorem unt_of {l : List D} (h : l.all unt = true) {i : Nat} {a b : D} (e : l[i]? = some (.tup [a, b])) : txts [a, b] = false := by
  have z := List.all_eq_true.mp h _ (List.mem_of_getElem? e)
  simpa [unt] using z
theorem pair_new {G : Gc} {μ : List Addr} {S : Sto} {H : Hp} {p : Addr} {x y : V} {d e : D} (hs : HS G μ S H) (hp : H p = none) (r1 : RV G.K μ H x d) (r2 : RV G.K μ H y e) (hu : txts [d, e] = false) :
    Gr μ H μ (upd H p (.tup [x, y])) ∧ HS G μ S (upd H p (.tup [x, y])) ∧ RV G.K μ (upd H p (.tup [x, y])) (.ref p) (.tup [d, e]) :=
  ⟨Gr.new hp, hs.beside hp, .tup ⟨hs.fresh hp, .inl upd_same⟩ (fun z => by rw [hu] at z; cases z) (.cons (r1.mono (Gr.new hp)) (.cons (r2.mono (Gr.new hp)) .nil))⟩
theorem pid_zip {e f : Expr} {a b : Den} {p pos tpos : Pos} {elts : List Expr} {kk : Nat} (hg : Gl X "zip") (hm : X.mg "zip" = none) (ha : PE X e (tD (gx X T) W a)) (hb : PE X f (tD (gx X T) W b)) (hst : starEach [e, f] X.env = (false, eval e X.env) :: starEach [f] X.env := by rfl)
    (hst2 : starEach [f] X.env = (false, eval f X.env) :: starEach [] X.env := by rfl) (hpl : (backTo pos (starEach [f] X.env)).any (·.1) = false := by rfl) : PI X (.Tuple elts kk tpos) (.Call (.Name "zip" p) [e, f] [] pos) (tIt (gx X T) W (iZipD a b)) :=
  (RZ.pi_zipA hg hm (pa_cons ha (pa_cons hb pa_nil hst2) hst) hst hpl).imp fun σ H Q ⟨ε, μ, S, sr, hs, h⟩ => ⟨ε, μ, S, sr, hs, (wR.bind (Rl := rlV (gx X T)) sr h).imp fun v H1 ⟨d, μ1, S1, g1, hs1, sr1, r1, h1⟩ =>
    ⟨ε, μ1, S1, sr1, hs1, (wR.bind (Rl := rlV (gx X T)) sr1 h1).imp fun w H2 ⟨e, μ2, S2, g2, hs2, sr2, r2, h2⟩ => by
    have r1 : RV X.K μ2 H2 v d := RV.mono g2 r1
    have r2 : RV X.K μ2 H2 w e := r2
    split at h2
    · cases r1 with
      | tup t1 _ rs1 =>
        cases r2 with
        | tup t2 _ rs2 =>
          split at h2
          · rename_i hall
            refine ⟨_, _, _, _, rfl, .inr ⟨t1.sq, t2.sq, wR.here hs2 h2 ?_⟩⟩
            intro i μ' H' S' ds g hs' e
            cases e
            have u1 := TupA.monoI g.i t1
            have u2 := TupA.monoI g.i t2
            have rs1 := RVs.mono g rs1
            have rs2 := RVs.mono g rs2
            refine ⟨fun hn => ⟨_, _, u1.sq, u2.sq, ?_⟩, fun d hd => ?_⟩
            · rw [RVs.length rs1, RVs.length rs2]
              exact pairs_none hn
            · obtain ⟨x, y, hx, hy, rfl⟩ := pairs_at hd
              obtain ⟨x', hx', rx⟩ := RVs.get rs1 hx
              obtain ⟨y', hy', ry⟩ := RVs.get rs2 hy
              refine ⟨⟨_, _, x', y', u1.sq, u2.sq, hx', hy'⟩, fun z H'' ⟨p, x2, y2, ez, hp, eh, k1, k2⟩ => ?_⟩
              rw [k1 _ u1.sq] at hx'
              rw [k2 _ u2.sq] at hy'
              cases hx'
              cases hy'
              subst ez eh
              exact pair_new hs' hp rx ry (unt_of hall hd)
          · exact h2.elim
    · split at h2
      · rename_i d0 e0 _ z1 z2 xs0 ys0 hl1 hl2
        obtain ⟨a1, xs1, rfl, hq1, _⟩ := litems_of hs2 r1 hl1
        obtain ⟨a2, ys1, rfl, hq2, _⟩ := litems_of hs2 r2 hl2
        refine ⟨_, _, _, _, rfl, .inl ⟨hq1, hq2, wR.here hs2 h2 ?_⟩⟩
        intro i μ' H' S' ds g hs' e
        simp only at e
        split at e
        · rename_i xs ys hm1 hm2
          split at e
          · rename_i hall
            cases e
            obtain ⟨_, us, e1, q1, rs1⟩ := litems_of hs' (r1.mono g) hm1
            obtain ⟨_, ws, e2, q2, rs2⟩ := litems_of hs' (r2.mono g) hm2
            cases e1
            cases e2
            refine ⟨fun hn => ⟨_, _, q1, q2, ?_⟩, fun d hd => ?_⟩
            · rw [RVs.length rs1, RVs.length rs2]
              exact pairs_none hn
            · obtain ⟨x, y, hx, hy, rfl⟩ := pairs_at hd
              obtain ⟨x', hx', rx⟩ := RVs.get rs1 hx
              obtain ⟨y', hy', ry⟩ := RVs.get rs2 hy
              refine ⟨⟨_, _, x', y', q1, q2, hx', hy'⟩, fun z H'' ⟨p, x2, y2, ez, hp, eh, k1, k2⟩ => ?_⟩
              rw [k1 _ q1] at hx'
              rw [k2 _ q2] at hy'
              cases hx'
              cases hy'
              subst ez eh
              exact pair_new hs' hp rx ry (unt_of hall hd)
          · cases e
        · cases e
      · exact h2.elim⟩⟩
def numbered (i : Nat) : List D → List D
  | [] => []
  | d :: ds => .tup [.int (i : Int), d] :: numbered (i + 1) ds
theorem numbered_at : ∀ {ds : List D} {k i : Nat}, (numbered k ds)[i]? = (ds[i]?).map fun d => .tup [.int ((k + i : Nat) : Int), d]
  | [], _, _ => by simp [numbered]
  | d :: ds, k, 0 => by simp [numbered]
  | d :: ds, k, i + 1 => by
    show (numbered (k + 1) ds)[i]? = _
    rw [numbered_at (ds := ds)]
    simp only [List.getElem?_cons_succ]
    rw [show k + 1 + i = k + (i + 1) by omega]
def forI (src : Src) (g : GDen) (b : SDen) : Nat → Nat → SDen
  | 0, _ => fun _ _ => .bad
  | m + 1, i => fun ε S => match src S with
    | none => .bad
    | some ds => match ds[i]? with
      | none => .ok (.nx ε) S
      | some d => match g d ε S with
        | none => .bad
        | some ε1 => match b ε1 S with
          | .ok (.nx ε') S' => forI src g b m (i + 1) ε' S'
          | .ok (.ct ε') S' => forI src g b m (i + 1) ε' S'
          | .ok (.bk ε') S' => .ok (.nx ε') S'
          | r => r
def sFor (it : IDen) (g : GDen) (b : SDen) : SDen := fun ε S => sE (it ε S) ε fun src S => match src S with
  | some ds => forI src g b (ds.length + 1) 0 ε S
  | none => .bad
theorem psd_for {tg iter : Expr} {body : List Stmt} {it : IDen} {js : List Nat} {g : GDen} {b : SDen} {pos : Pos} (po : PassesOwn (model X.prog X.w) X.A X.env X.xe) (hc : X.calm = true) (hi : PI X tg iter (tIt (gx X T) W it)) (hg : PG X tg (tG (gx X T) js g)) (hb : PSs X body (tS (gx X T) W b))
    (hf : ∀ x, foldedSetIterable iter X.env x = pure x := by intro _; rfl) : PS X (.For tg iter body [] pos) (tS (gx X T) W (sFor it g b)) :=
  (ps_for po hc hi hg hb hf).imp fun N σ H ⟨ε, μ, S, sr, hs, h⟩ => ⟨ε, μ, S, sr, hs, (wS.bind (Rl := rlI (gx X T)) sr h).imp fun J H1 ⟨src, μ1, S1, g1, hs1, sr1, sim, h1⟩ => by
    split at h1
    · rename_i ds0 hds0
      refine ⟨fun i m σ' H' => ∃ ε' μ' S', Gr μ1 H1 μ' H' ∧ SR X.K μ' H' σ' ε' ∧ HS (gx X T) μ' S' H' ∧ wS (gx X T) W (forI src g b m i ε' S') μ' H' N, ⟨_, ε, μ1, S1, Gr.refl, sr1, hs1, h1⟩, ?_⟩
      rintro i m σ2 H2 ⟨ε2, μ2, S2, g2, sr2, hs2, h2⟩
      cases m with
      | zero => exact h2.elim
      | succ m =>
        unfold forI at h2
        split at h2
        · exact h2.elim
        · rename_i ds hds
          obtain ⟨k1, k2⟩ := sim i μ2 H2 S2 ds g2 hs2 hds
          split at h2
          · rename_i hn
            exact .inl ⟨k1 hn, h2 σ2 μ2 H2 Gr.refl hs2 sr2⟩
          · rename_i d hd
            obtain ⟨k3, k4⟩ := k2 d hd
            refine .inr ⟨k3, fun σ' H' => ∃ ε' μ' S', Gr μ1 H1 μ' H' ∧ SR X.K μ' H' σ' ε' ∧ HS (gx X T) μ' S' H' ∧ wS (gx X T) W (forI src g b m (i + 1) ε' S') μ' H' N, fun σ' H' z => ⟨m, Nat.lt_succ_self m, z⟩, fun x H3 hy => ?_⟩
            obtain ⟨g3, hs3, rx⟩ := k4 x H3 hy
            split at h2
            · exact h2.elim
            · rename_i ε1 hε1
              refine ⟨ε2, μ2, S2, d, ε1, sr2.mono g3, hs3, rx, hε1, fun σ4 sr4 _ _ => ⟨ε1, μ2, S2, sr4, hs3, ?_⟩⟩
              have h2 := wS.up g3 h2
              cases e : b ε1 S2 with
              | ok f S' =>
                rw [e] at h2
                cases f with
                | nx ε3 => exact fun σ' μ' H' g hs' sr' => ⟨ε3, μ', S', (g2.trans g3).trans g, sr', hs', wS.up g h2⟩
                | ct ε3 => exact fun σ' μ' H' g hs' sr' => ⟨ε3, μ', S', (g2.trans g3).trans g, sr', hs', wS.up g h2⟩
                | bk ε3 => exact h2
                | rt d => exact h2
                | ex c ε => exact h2
              | exc c S' => rw [e] at h2; exact h2
              | bad => rw [e] at h2; exact h2
    · exact h1.elim⟩
end
end DL

set_option Elab.async false
set_option linter.all false
set_option maxRecDepth 100000
set_option maxHeartbeats 1000000
namespace DL
open PySem L2
def wipeE (ε : Env) : List Nat → Env
  | [] => ε
  | v :: vs => (wipeE ε vs).set v none
theorem SR.none {K : PySem.W.Frag} {μ : List Addr} {H : Hp} {σ : L2.St} {ε : Env} (h : SR K μ H σ ε) (i : Nat) : SR K μ H (σ.set i none) (ε.set i none) := by
  refine ⟨by simp [h.1], fun j d q => ?_⟩
  by_cases hj : i = j
  · subst hj
    by_cases hi : i < ε.length
    · rw [List.getElem?_set_self hi] at q
      cases q
    · rw [List.getElem?_eq_none (by simpa using hi)] at q
      cases q
  · rw [List.getElem?_set_ne hj] at q
    obtain ⟨v, e1, r⟩ := h.2 j d q
    exact ⟨v, by rw [List.getElem?_set_ne hj]; exact e1, r⟩
theorem SR.wipe {K : PySem.W.Frag} {μ : List Addr} {H : Hp} {σ : L2.St} {ε : Env} (h : SR K μ H σ ε) : ∀ vs : List Nat, SR K μ H (L2.wipe σ vs) (wipeE ε vs)
  | [] => h
  | v :: vs => (SR.wipe h vs).none v
theorem wipe_in {σ : L2.St} {i : Nat} (hi : i < σ.length) : ∀ {vs : List Nat}, i ∈ vs → (L2.wipe σ vs)[i]? = some none
  | v :: vs, h => by
    unfold L2.wipe
    by_cases e : v = i
    · subst e
      exact List.getElem?_set_self (by rw [wipe_length]; exact hi)
    · rw [List.getElem?_set_ne e]
      exact wipe_in hi ((List.mem_cons.mp h).resolve_left fun q => e q.symm)
theorem wipe_same {σ σ2 : L2.St} {vs js : List Nat} (hj : js.all vs.contains = true) (hl : σ2.length = (L2.wipe σ vs).length) (h : ∀ j, j ∉ js → σ2[j]? = (L2.wipe σ vs)[j]?) : L2.wipe σ2 vs = L2.wipe σ vs := by
  rw [wipe_length] at hl
  apply List.ext_getElem?
  intro i
  by_cases hi : i ∈ vs
  · by_cases hb : i < σ.length
    · rw [wipe_in (by rw [hl]; exact hb) hi, wipe_in hb hi]
    · rw [List.getElem?_eq_none (by rw [wipe_length, hl]; exact Nat.le_of_not_lt hb), List.getElem?_eq_none (by rw [wipe_length]; exact Nat.le_of_not_lt hb)]
  · rw [wipe_out hi, h i fun m => hi (by simpa using (List.all_eq_true.mp hj) i m)]
section
variable {X : Cx} {T : Gt} {W : WX}
abbrev W0 : WX := fun _ _ _ _ => False
def noX {α : Type} : R α → R α
  | .ok a S => .ok a S
  | _ => .bad
def bYes : DenB := fun _ S => .ok true S
theorem ptsd_nil : PTs X [] (tDB (gx X T) W bYes) := pts_nil.imp fun σ H Q ⟨ε, μ, S, sr, hs, h⟩ => wR.here hs h rfl
theorem ptsd_one {c : Expr} {b : DenB} (h : PT X c (tDB (gx X T) W b)) : PTs X [c] (tDB (gx X T) W b) := pts_one h
def lcI (src : Src) (g : GDen) (c : DenB) (e : Den) (vs : List Nat) (ε : Env) : Nat → Nat → List D → Sto → R (List D)
  | 0, _, _, _ => .bad
  | m + 1, i, acc, S => match src S with
    | none => .bad
    | some ds => match ds[i]? with
      | none => .ok acc S
      | some d => match g d (wipeE ε vs) S with
        | none => .bad
        | some ε1 => (noX (c ε1 S)).bind fun k S => if k = true then (noX (e ε1 S)).bind fun x S => (if acc.length < big then lcI src g c e vs ε m (i + 1) (acc ++ [x]) S else .bad) else lcI src g c e vs ε m (i + 1) acc S
def lcEnd (ds : List D) (S : Sto) : R D := .ok (.ref S.length) (S ++ [.lst ds])
def dLc (it : IDen) (g : GDen) (c : DenB) (e : Den) (vs : List Nat) : Den := fun ε S => (it ε S).bind fun src S => match src S with
  | some ds => (lcI src g c e vs ε (ds.length + 1) 0 [] S).bind lcEnd
  | none => .bad
theorem lc_to {it : IDen} {js vs : List Nat} {g : GDen} {c : DenB} {e : Den} (hj : js.all vs.contains = true) :
    ∀ σ H Q, tD (gx X T) W (dLc it g c e vs) σ H Q → tLc (tIt (gx X T) W it) (tG (gx X T) js g) (tDB (gx X T) W0 c) (tD (gx X T) W0 e) vs σ H Q := fun σ H Q ⟨ε, μ, S, sr, hs, h⟩ =>
  ⟨ε, μ, S, sr, hs, (wR.bind (Rl := rlI (gx X T)) sr h).imp fun J H1 ⟨src, μ1, S1, g1, hs1, sr1, sim, h1⟩ Dl hDl => by
    split at h1
    · rename_i ds0 hds0
      refine ⟨fun i m H2 => ∃ μ2 S2 accV acc, Gr μ1 H1 μ2 H2 ∧ HS (gx X T) μ2 S2 H2 ∧ H2 Dl = some (.lst accV) ∧ Dl ∉ μ2 ∧ RVs X.K μ2 H2 accV acc ∧ wR (gx X T) W (rlV (gx X T)) ((lcI src g c e vs ε m i acc S2).bind lcEnd) σ μ1 H1 Q,
        ⟨_, μ1, S1, [], [], Gr.new hDl, hs1.beside hDl, upd_same, hs1.fresh hDl, .nil, h1⟩, ?_⟩
      rintro i m H2 ⟨μ2, S2, accV, acc, g2, hs2, hd2, nd2, racc, h2⟩
      cases m with
      | zero => exact h2.elim
      | succ m =>
        unfold lcI at h2
        split at h2
        · exact h2.elim
        · rename_i ds hds
          obtain ⟨k1, k2⟩ := sim i μ2 H2 S2 ds g2 hs2 hds
          split at h2
          · rename_i hn
            exact .inl ⟨k1 hn, h2 _ _ _ (g2.join hDl) (hs2.join hd2 nd2 racc) (.ref hs2.last)⟩
          · rename_i d hd
            obtain ⟨k3, k4⟩ := k2 d hd
            refine .inr ⟨k3, fun H' => ∃ μ' S' accV' acc', Gr μ1 H1 μ' H' ∧ HS (gx X T) μ' S' H' ∧ H' Dl = some (.lst accV') ∧ Dl ∉ μ' ∧ RVs X.K μ' H' accV' acc' ∧ wR (gx X T) W (rlV (gx X T)) ((lcI src g c e vs ε m (i + 1) acc' S').bind lcEnd) σ μ1 H1 Q,
              fun H' z => ⟨m, Nat.lt_succ_self m, z⟩, fun x H3 hy => ?_⟩
            obtain ⟨g3, hs3, rx⟩ := k4 x H3 hy
            have hd3 := g3.keep _ _ nd2 hd2
            split at h2
            · exact h2.elim
            · rename_i ε1 hε1
              refine ⟨wipeE ε vs, μ2, S2, d, ε1, (sr1.mono (g2.trans g3)).wipe vs, hs3, rx, hε1, fun σ4 sr4 l4 q4 => ⟨wipe_same hj l4 q4, ?_⟩⟩
              refine ⟨ε1, μ2, S2, sr4, hs3, ?_⟩
              cases ec : c ε1 S2 with
              | exc _ _ => rw [ec] at h2; exact h2.elim
              | bad => rw [ec] at h2; exact h2.elim
              | ok k S4 =>
                rw [ec] at h2
                intro b μ4 H4 g4 hs4 eb
                have eb : b = k := eb
                subst eb
                have hd4 := g4.keep _ _ nd2 hd3
                have nd4 := g4.notin hd3 nd2
                have racc4 := (racc.mono g3).mono g4
                cases b with
                | false => exact ⟨μ4, S4, accV, acc, (g2.trans g3).trans g4, hs4, hd4, nd4, racc4, h2⟩
                | true =>
                  refine ⟨ε1, μ4, S4, sr4.mono g4, hs4, ?_⟩
                  cases ee : e ε1 S4 with
                  | exc _ _ =>
                    simp only [noX, R.bind_ok, if_true, ee, R.bind_bad] at h2
                    exact h2.elim
                  | bad =>
                    simp only [noX, R.bind_ok, if_true, ee, R.bind_bad] at h2
                    exact h2.elim
                  | ok y S5 =>
                    simp only [noX, R.bind_ok, if_true, ee] at h2
                    intro v μ5 H5 g5 hs5 rv
                    have hd5 := g5.keep _ _ nd4 hd4
                    have nd5 := g5.notin hd4 nd4
                    split at h2
                    · have racc5 := racc4.mono g5
                      refine ⟨accV, hd5, by rw [RVs.length racc5]; exact big_lt (Nat.le_of_lt ‹_›), μ5, S5, accV ++ [v], acc ++ [y], (((g2.trans g3).trans g4).trans g5).aside hDl, hs5.aside hd5 nd5, upd_same, nd5, ?_, h2⟩
                      exact (racc5.append (.cons rv .nil)).monoI (Gi.aside hd5)
                    · exact h2.elim
    · exact h1.elim⟩
theorem pd_lc {elt tg iter : Expr} {ifs : List Expr} {scope : Scope} {own : List (Str × Nat)} {pos : Pos} {it : IDen} {js : List Nat} {g : GDen} {c : DenB} {e : Den} (hc : X.calm = true) (hN : X.N.Nodup) (hi : PI X tg iter (tIt (gx X T) W it)) (ok : BlkOk X.N X.env.scope scope own)
    (hg : ∀ (s : Shared) (H : Hp) (C : Addr) (cl : List (Str × Addr)) (fp : List Addr), PG (X.blk s H scope (compEnvC scope cl C X.env) fp) tg (tG (gx X T) js g)) (ht : ∀ (s : Shared) (H : Hp) (C : Addr) (cl : List (Str × Addr)) (fp : List Addr), PTs (X.blk s H scope (compEnvC scope cl C X.env) fp) ifs (tDB (gx X T) W0 c))
    (he : ∀ (s : Shared) (H : Hp) (C : Addr) (cl : List (Str × Addr)) (fp : List Addr), PE (X.blk s H scope (compEnvC scope cl C X.env) fp) elt (tD (gx X T) W0 e)) (hj : js.all (own.map (·.2)).contains = true := by rfl) (hs : ∀ x, foldedSetIterable iter X.env x = pure x := by intro _; rfl) :
    PE X (.ListComp elt [⟨tg, iter, ifs, 0⟩] scope pos) (tD (gx X T) W (dLc it g c e (own.map (·.2)))) :=
  (pe_lc hc hN hi ok hg ht he hs).imp (lc_to hj)
def lstAt (S : Sto) : D → Option (Nat × List D)
  | .ref n => match S[n]? with
    | some (.lst ds) => some (n, ds)
    | _ => none
  | _ => none
theorem lstAt_of {G : Gc} {μ : List Addr} {S : Sto} {H : Hp} (hs : HS G μ S H) {v : V} {d : D} {n : Nat} {ds : List D} (r : RV G.K μ H v d) (e : lstAt S d = some (n, ds)) : ∃ a xs, v = .ref a ∧ μ[n]? = some a ∧ H a = some (.lst xs) ∧ RVs G.K μ H xs ds := by
  cases r with
  | ref q =>
    simp only [lstAt] at e
    split at e
    · cases e
      exact hs.lst (RV.ref q) ‹_›
    · cases e
  | _ => cases e
def dAppend (o a : Den) : Den := fun ε S => (o ε S).bind fun l S => match lstAt S l with
  | some _ => (a ε S).bind fun d S => (match lstAt S l with
    | some (n, ds) => if ds.length < big then .ok .non (S.set n (.lst (ds ++ [d]))) else .bad
    | none => .bad)
  | none => .bad
theorem pd_append {o e : Expr} {apos cpos : Pos} {a b : Den} (ha : PE X o (tD (gx X T) W a)) (hb : PE X e (tD (gx X T) W b)) (hst : starEach [e] X.env = (false, eval e X.env) :: starEach [] X.env := by rfl)
    (hbase : attributeBase o "append" X.env (eval o X.env) = eval o X.env := by rfl)
    (hfew : ((backTo cpos (starEach [e] X.env)).all (fun x => !x.1) && (backToKw cpos (keywordEach [] X.env)).all (fun x => x.1.isSome)
      && decide (([e] : List Expr).length + ([] : List Keyword).length + (if ([] : List Keyword).isEmpty then 0 else 1) < 30)) = true := by rfl)
    (hline : (apos.endLine == cpos.line) = true := by rfl) (hplain : (backTo cpos (starEach [] X.env)).any (·.1) = false := by rfl) :
    PE X (.Call (.Attribute o "append" apos) [e] [] cpos) (tD (gx X T) W (dAppend a b)) :=
  (pe_bm PySem.F.plainAttrs_list PySem.F.slot_list_append PySem.F.type_list_append mt_append ha (pa_cons hb pa_nil hst) hbase hfew hline hst hplain).imp fun σ H Q ⟨ε, μ, S, sr, hs, h⟩ => ⟨ε, μ, S, sr, hs, (wR.bind (Rl := rlV (gx X T)) sr h).imp fun v H1 ⟨d, μ1, S1, g1, hs1, sr1, r1, h1⟩ => by
    split at h1
    · rename_i z hz
      obtain ⟨n0, ds0⟩ := z
      obtain ⟨p, xs, rfl, en, hp, rs⟩ := lstAt_of hs1 r1 hz
      refine ⟨.inl ⟨rfl, xs, .inl (.inl hp)⟩, ε, μ1, S1, sr1, hs1, (wR.bind (Rl := rlV (gx X T)) sr1 h1).imp fun w H2 ⟨e, μ2, S2, g2, hs2, sr2, r2, h2⟩ => ?_⟩
      split at h2
      · rename_i n ds hz2
        split at h2
        · obtain ⟨p2, xs2, e2, en2, hp2, rs2⟩ := lstAt_of hs2 (RV.mono g2 r1) hz2
          cases e2
          have g3 : Gr μ2 H2 μ2 (upd H2 p (.lst (xs2 ++ [w]))) := Gr.write (List.mem_of_getElem? en2)
          exact ⟨p, xs2, w, rfl, rfl, hp2, by rw [RVs.length rs2]; exact big_lt (Nat.le_of_lt ‹_›), h2 _ _ _ g3 (hs2.put en2 ⟨_, upd_same, (RVs.append rs2 (.cons r2 .nil)).mono g3⟩) .non⟩
        · exact h2.elim
      · exact h2.elim
    · exact h1.elim⟩
end

def runFn (np nN : Nat) (b : SDen) : Fn := fun ds S => if ds.length = np then (match b (ds.map some ++ List.replicate (nN - np) none) S with
  | .ok (.nx _) S' => .ok .non S'
  | .ok (.rt d) S' => .ok d S'
  | .ok (.ex c _) S' => .exc c S'
  | _ => .bad) else .bad
theorem sr_start {K : PySem.W.Frag} {μ : List Addr} {H : Hp} : ∀ {vs : List V} {ds : List D}, RVs K μ H vs ds → ∀ n : Nat, SR K μ H (vs.map some ++ List.replicate n none) (ds.map some ++ List.replicate n none)
  | vs, ds, r, n => by
    refine ⟨by simp [r.length], fun i d e => ?_⟩
    by_cases hi : i < ds.length
    · rw [List.getElem?_append_left (by simpa using hi), List.getElem?_map] at e
      cases q : ds[i]? with
      | none => rw [q] at e; cases e
      | some d' =>
        rw [q] at e
        cases e
        obtain ⟨v, h1, h2⟩ := r.get q
        exact ⟨v, by rw [List.getElem?_append_left (by rw [List.length_map, r.length]; exact hi), List.getElem?_map, h1]; rfl, h2⟩
    · rw [List.getElem?_append_right (by simpa using Nat.le_of_not_lt hi)] at e
      by_cases hj : i - (ds.map some).length < n
      · rw [List.getElem?_replicate, if_pos hj] at e
        cases e
      · rw [List.getElem?_replicate, if_neg hj] at e
        cases e
theorem fn_ok {P : Program} {w : World} {K : PySem.W.Frag} {mg : Str → Option Value} {base : Heap} {T : Gt} {x qual : Str} {st : Stmt} {f : Addr} {fd : FuncData} {N ps : List Str} {k np : Nat} {b : SDen} (F : Fun K x qual st f fd) (Sc : FnScope N ps (defScope st)) (hl : ps.length = np)
    (body : ∀ (cdv : Value) (A : Around) (outer : List PySem.Env) (s : Shared) (H : Hp) (E : XK), Room k (A.deeper (PyProof.Rows.envOfC qual (defScope st) s.heap.objs.size f cdv)) →
      PSs (cxOf (L2.CX P w) P w K mg base N qual (defScope st) f cdv A outer s H E) (defBody st) (tS ⟨K, T.cA, T.xA⟩ (fun cls d _ H => E cls d H) b)) :
    FnOk P w K mg base (L2.CX P w) (k + 1) f fd ps (spD ⟨K, T.cA, T.xA⟩ np (runFn np N.length b)) := by
  refine F.okX Sc (fun vs H Q E ⟨_, _, _, h, _⟩ => h.trans hl.symm) fun cdv A outer s H vs Q E hr ⟨μ, S, ds, hv, hs, rs, h⟩ => ?_
  refine ⟨_, body cdv A outer s H E hr, ds.map some ++ List.replicate (N.length - np) none, μ, S, ?_, hs, ?_⟩
  · show SR K μ H (vs.map some ++ List.replicate (N.length - vs.length) none) _
    rw [hv]
    exact sr_start rs _
  · unfold runFn at h
    rw [if_pos (by rw [← RVs.length rs]; exact hv)] at h
    cases e : b (ds.map some ++ List.replicate (N.length - np) none) S with
    | ok fl S' =>
      rw [e] at h
      cases fl with
      | nx ε => exact fun σ' μ' H' g hs' _ => h _ _ _ g hs' .non
      | rt d => exact fun v μ' H' g hs' r => h _ _ _ g hs' r
      | bk ε => exact h.elim
      | ct ε => exact h.elim
      | ex c ε => exact fun C σ' μ' H' hx g hs' _ => h C μ' H' hx g hs'
    | exc c S' => rw [e] at h; exact h.elim
    | bad => rw [e] at h; exact h.elim
theorem fn_zero {P : Program} {w : World} {K : PySem.W.Frag} {mg : Str → Option Value} {base : Heap} {G : Gc} {f : Addr} {fd : FuncData} {ps : List Str} {np : Nat} : FnOk P w K mg base (L2.CX P w) 0 f fd ps (spD G np fun _ _ => .bad) :=
  ⟨fun vs H Q E ⟨_, _, _, _, _, _, h⟩ => h.elim, fun A outer s H args us vs Q E _ _ _ _ ⟨_, _, _, _, _, _, h⟩ => h.elim⟩
end DL

set_option Elab.async false
set_option linter.all false
set_option maxRecDepth 100000
set_option maxHeartbeats 1000000
namespace DZ
open PySem
open Sem (wp)
section
end
end DZ

set_option Elab.async false
set_option linter.all false
set_option maxRecDepth 100000
set_option maxHeartbeats 1000000
namespace L2
open PySem PySem.Spec PyProof.Rows
section
end
end L2

set_option Elab.async false
set_option linter.all false
set_option maxRecDepth 100000
set_option maxHeartbeats 1000000
namespace L2
open PySem PySem.Spec PyProof.Rows
theorem PE.or {X : Cx} {e : Expr} {t t' : TE} (h : PE X e t) (h' : PE X e t') : PE X e (fun σ H Q => t σ H Q ∨ t' σ H Q) := ⟨fun pins s σ H Q I q => q.elim (h.run pins s σ H Q I) (h'.run pins s σ H Q I)⟩
theorem PT.or {X : Cx} {e : Expr} {t t' : TT} (h : PT X e t) (h' : PT X e t') : PT X e (fun σ H Q => t σ H Q ∨ t' σ H Q) := ⟨fun pins s σ H Q I q => q.elim (h.run pins s σ H Q I) (h'.run pins s σ H Q I)⟩
theorem PI.or {X : Cx} {tg e : Expr} {t t' : TI} (h : PI X tg e t) (h' : PI X tg e t') : PI X tg e (fun σ H Q => t σ H Q ∨ t' σ H Q) := ⟨fun pins s σ H Q I q => q.elim (h.run pins s σ H Q I) (h'.run pins s σ H Q I)⟩
end L2

namespace DL
open PySem L2
section
end
section
variable {X : Cx} {T : Gt} {W : WX}
def mergeD (kvs more : List (Key × D)) : List (Key × D) := more.foldl (fun acc kv => putD acc kv.1 kv.2) kvs
def dUpd (o a : Den) : Den := fun ε S => (o ε S).bind fun l S => match dctAt S l with
  | some _ => (a ε S).bind fun d S => (match dctAt S l, dctAt S d with
    | some (n, kvs), some (m, more) => if n ≠ m ∧ kvs.length + more.length ≤ big then .ok .non (S.set n (.dct (mergeD kvs more))) else .bad
    | _, _ => .bad)
  | none => .bad
def pairD : D → Option (Key × D)
  | .tup [k, v] => (keyD k).map fun k => (k, v)
  | _ => none
def fDict : Fn := fun ds S => match ds with
  | [d] => (match dctAt S d with
    | some (_, kvs) => .ok (.ref S.length) (S ++ [.dct kvs])
    | none => (match litems S d with
      | some xs => (match fall pairD xs with
        | some kvs => .ok (.ref S.length) (S ++ [.dct (mergeD [] kvs)])
        | none => .bad)
      | none => .bad))
  | _ => .bad
def keyed : List (D × D) → Option (List (Key × D))
  | [] => some []
  | (k, v) :: r => match keyD k, keyed r with
    | some j, some s => some ((j, v) :: s)
    | _, _ => none
inductive RP (K : PySem.W.Frag) (μ : List Addr) (H : Hp) : List (V × V) → List (D × D) → Prop
  | nil : RP K μ H [] []
  | cons {x y : V} {d e : D} {vs : List (V × V)} {ds : List (D × D)} : RV K μ H x d → RV K μ H y e → RP K μ H vs ds → RP K μ H ((x, y) :: vs) ((d, e) :: ds)
theorem RP.keyed {K : PySem.W.Frag} {μ : List Addr} {H : Hp} : ∀ {vs : List (V × V)} {ds : List (D × D)} {kvs : List (Key × D)}, RP K μ H vs ds → DL.keyed ds = some kvs → ∃ ws : List (Key × V), vs = ws.map (fun kv => (kV kv.1, kv.2)) ∧ RKs K μ H ws kvs
  | _, _, _, .nil, e => by cases e; exact ⟨[], rfl, .nil⟩
  | _, _, _, .cons hx hy t, e => by
    unfold DL.keyed at e
    split at e
    · rename_i j s hj hs
      cases e
      obtain ⟨ws, rfl, q⟩ := RP.keyed t hs
      have ek := key_of hx hj
      subst ek
      exact ⟨(j, _) :: ws, rfl, .cons hy q⟩
    · cases e
def oGet : Op := fun d k S => match dctAt S d with
  | some (_, kvs) => (match keyD k with
    | some j => (match valD kvs j with
      | some v => .ok v S
      | none => .bad)
    | none => .bad)
  | none => oIx d k S
theorem pd_sub {a b : Expr} {da db : Den} {pos : Pos} (hu : X.A.units + 1 < cLine) (ha : PE X a (tD (gx X T) W da)) (hb : PE X b (tD (gx X T) W db)) (hp : PlainIx b := by exact fun _ _ => rfl) (hn : NoSl b := by exact fun _ _ => rfl) : PE X (.Subscript a b pos) (tD (gx X T) W (dBin oGet da db)) :=
  (L2.PE.or (pd_dget (T := T) (W := W) hu ha hb hn) (pd_ix (T := T) (W := W) ha hb hp)).imp fun σ H Q ⟨ε, μ, S, sr, hs, h⟩ => by
    unfold dBin at h
    cases ea : da ε S with
    | bad => rw [ea] at h; exact h.elim
    | exc c S1 =>
      rw [ea] at h
      refine .inr ⟨ε, μ, S, sr, hs, ?_⟩
      unfold dBin
      rw [ea]
      exact h
    | ok d S1 =>
      rw [ea] at h
      cases eb : db ε S1 with
      | bad => rw [R.bind_ok, eb] at h; exact h.elim
      | exc c S2 =>
        rw [R.bind_ok, eb] at h
        refine .inr ⟨ε, μ, S, sr, hs, ?_⟩
        unfold dBin
        rw [ea, R.bind_ok, eb]
        exact h
      | ok k S2 =>
        rw [R.bind_ok, eb, R.bind_ok] at h
        unfold oGet at h
        cases ed : dctAt S2 d with
        | none =>
          rw [ed] at h
          refine .inr ⟨ε, μ, S, sr, hs, ?_⟩
          unfold dBin
          rw [ea, R.bind_ok, eb, R.bind_ok]
          exact h
        | some z =>
          obtain ⟨n, kvs⟩ := z
          rw [ed] at h
          refine .inl ⟨ε, μ, S, sr, hs, ?_⟩
          unfold dGetI
          rw [ea, R.bind_ok, eb, R.bind_ok, ed]
          simp only at h ⊢
          cases ek : keyD k with
          | none => rw [ek] at h; exact h.elim
          | some j => rw [ek] at h; exact h
def iAny (a : Den) : IDen := fun ε S => (a ε S).bind fun d S => match d with
  | .tup ds => .ok (fun _ => some ds) S
  | .str x => .ok (fun _ => some (signs x)) S
  | d => (match litems S d with
    | some _ => .ok (fun S => litems S d) S
    | none => .bad)
theorem pid_any {tg e : Expr} {a : Den} (ha : PE X e (tD (gx X T) W a)) : PI X tg e (tIt (gx X T) W (iAny a)) :=
  (PI.or (pid_tup ha) (PI.or (pid_str ha) (pid_seq ha))).imp fun σ H Q ⟨ε, μ, S, sr, hs, h⟩ => by
    unfold iAny at h
    cases ea : a ε S with
    | bad => rw [ea] at h; exact h.elim
    | exc c S1 =>
      rw [ea] at h
      refine .inl ⟨ε, μ, S, sr, hs, ?_⟩
      unfold iTupD
      rw [ea]
      exact h
    | ok d S1 =>
      rw [ea, R.bind_ok] at h
      cases d with
      | tup ds =>
        refine .inl ⟨ε, μ, S, sr, hs, ?_⟩
        unfold iTupD
        rw [ea]
        exact h
      | str x =>
        refine .inr (.inl ⟨ε, μ, S, sr, hs, ?_⟩)
        unfold iSigns
        rw [ea]
        exact h
      | _ =>
        refine .inr (.inr ⟨ε, μ, S, sr, hs, ?_⟩)
        unfold iSeq
        rw [ea]
        exact h
end
end DL
namespace L2
open PySem PySem.Spec PyProof.Rows
theorem PS.or {X : Cx} {st : Stmt} {t t' : TS} (h : PS X st t) (h' : PS X st t') : PS X st (fun N σ H => t N σ H ∨ t' N σ H) := ⟨fun pins s σ H N I q => q.elim (h.run pins s σ H N I) (h'.run pins s σ H N I)⟩
theorem Room.u65 {k : Nat} {A : Around} (r : Room k A) : A.units + 65 < cLine := by have := r.un; omega
end L2
namespace DL
open PySem L2
section
variable {X : Cx} {T : Gt} {W : WX}
def sPut (o k v : Den) : SDen := fun ε S => sE (v ε S) ε fun x S => sE (o ε S) ε fun l S => sE (k ε S) ε fun y S => match dctAt S l with
  | some (n, kvs) => (match keyD y with
    | some j => if kvs.length < big then .ok (.nx ε) (S.set n (.dct (putD kvs j x))) else .bad
    | none => .bad)
  | none => (match lstAt S l, y with
    | some (n, ds), .int i => (match ixN ds.length i with
      | some j => .ok (.nx ε) (S.set n (.lst (ds.set j x)))
      | none => .bad)
    | _, _ => .bad)
theorem psd_put {o i value : Expr} {pos pos' : Pos} {l k v : Den} (hu : X.A.units + 1 < cLine) (ho : PE X o (tD (gx X T) W l)) (hi : PE X i (tD (gx X T) W k)) (hv : PE X value (tD (gx X T) W v)) (hsw : swapsWith value (some (.Subscript o i pos')) pos.line X.env = pure false := by rfl)
    (hs : swapsWithSole [.Subscript o i pos'] value pos.line X.env = pure false := by rfl) (hw : swappedStores [.Subscript o i pos'] value X.env = pure none := by rfl)
    (h1 : (assignEach [.Subscript o i pos'] X.env).map (·.2) = [assign (.Subscript o i pos') X.env] := by rfl)
    (h2 : ∀ v, assign (.Subscript o i pos') X.env v = (do
        let ov ← holding [v] (eval o X.env)
        let iv ← holding [v, ov] (eval i X.env)
        standAt pos'
        holding [v, ov, iv] (setItem ov iv v)
        release [v, ov, iv] []) := by intro _; rfl) :
    PS X (.Assign [.Subscript o i pos'] value pos) (tS (gx X T) W (sPut l k v)) :=
  (PS.or (psd_dput (T := T) (W := W) hu ho hi hv hsw) (psd_lput (T := T) (W := W) ho hi hv hs hw h1 h2)).imp fun N σ H ⟨ε, μ, S, sr, hs, h⟩ => by
    unfold sPut at h
    cases ea : v ε S with
    | bad => rw [ea] at h; exact h.elim
    | exc c S1 =>
      rw [ea] at h
      refine .inl ⟨ε, μ, S, sr, hs, ?_⟩
      unfold sDPutD
      rw [ea]
      exact h
    | ok x S1 =>
      rw [ea] at h
      simp only [sE] at h
      cases eb : l ε S1 with
      | bad => rw [eb] at h; exact h.elim
      | exc c S2 =>
        rw [eb] at h
        refine .inl ⟨ε, μ, S, sr, hs, ?_⟩
        unfold sDPutD
        rw [ea]
        simp only [sE, eb]
        exact h
      | ok o S2 =>
        rw [eb] at h
        simp only at h
        cases ec : k ε S2 with
        | bad => rw [ec] at h; exact h.elim
        | exc c S3 =>
          rw [ec] at h
          refine .inl ⟨ε, μ, S, sr, hs, ?_⟩
          unfold sDPutD
          rw [ea]
          simp only [sE, eb, ec]
          exact h
        | ok y S3 =>
          rw [ec] at h
          simp only at h
          cases ed : dctAt S3 o with
          | some z =>
            obtain ⟨n, kvs⟩ := z
            rw [ed] at h
            refine .inl ⟨ε, μ, S, sr, hs, ?_⟩
            unfold sDPutD
            rw [ea]
            simp only [sE, eb, ec, ed]
            cases ek : keyD y with
            | none => simp only [ek] at h; exact h.elim
            | some j => simp only [ek] at h; exact h
          | none =>
            rw [ed] at h
            refine .inr ⟨ε, μ, S, sr, hs, ?_⟩
            unfold sLPutD
            rw [ea]
            simp only [sE, eb, ec]
            cases o with
            | ref n =>
              cases y with
              | int i =>
                simp only [lstAt] at h
                cases en : S3[n]? with
                | none => simp only [en] at h; exact h.elim
                | some ob =>
                  cases ob with
                  | lst ds => simp only [en] at h ⊢; exact h
                  | _ => simp only [en] at h; exact h.elim
              | _ => (revert h; cases lstAt S3 (.ref n) <;> exact fun h => h.elim)
            | _ => simp only [lstAt] at h; exact h.elim
end
end DL

set_option Elab.async false
set_option linter.all false
namespace DL
open PySem L2
theorem no_exc {P : Program} {w : World} {H : Hp} {s : Shared} {e : Value} {s' : Shared} (z : L2.CX P w [] H s (fun _ _ _ => False) e s') : False := by
  obtain ⟨_, _, _, _, _, _, _, _, _, _, _, _, z⟩ := z
  exact z
theorem hs_nil (G : Gc) (H : Hp) : HS G [] [] H := ⟨rfl, List.nodup_nil, fun n a o e => by simp at e⟩
theorem rvs_ints {K : PySem.W.Frag} {μ : List Addr} {H : Hp} : ∀ ns : List Int, RVs K μ H (ns.map V.int) (ns.map D.int)
  | [] => .nil
  | i :: r => .cons (.int i) (rvs_ints r)
theorem rv_script {K : PySem.W.Frag} {H : Hp} {a : Addr} {ns : List Int} (hO : Only H) (h : SqL K H a (ns.map V.int)) : RV K [] H (.ref a) (.seq (ns.map D.int)) := .seq (LstA.of hO h) (rvs_ints ns)
end DL

set_option Elab.async false
set_option linter.all false
set_option maxRecDepth 100000
set_option maxHeartbeats 1000000
namespace DL
open PySem L2 PyProof.Rows
structure ExcC (K : PySem.W.Frag) (C : Addr) : Prop where
  xin : PySem.W.excIn K C [.type "Exception", .type "BaseException", .type "object"] "Exception.__new__" = true
  kp : PySem.W.keepIn K (.ref C) = true
  sb : PySem.W.subIn K (.ref C) (.type "BaseException") = some true
  ty : PySem.W.typeIn K (.ref C) = some (.type "type")
  cl : PySem.W.isClsIn K C = true
  se : PySem.W.subIn K (.ref C) (.ref C) = some true
section
variable {X : Cx} {T : Gt} {W : WX} {C : Addr} {x m : Str} {j : Nat} {p p2 pos pos2 : Pos}
def sRaise (c : Str) : SDen := fun ε S => .ok (.ex c ε) S
end
end DL

set_option Elab.async false
set_option linter.all false
set_option maxRecDepth 100000
set_option maxHeartbeats 1000000
namespace DL.KS
open PySem PySem.Spec PyProof.Rows L2
variable {K : Type} [DecidableEq K]

section
variable {lt : K → K → Bool}
def ins1 (lt : K → K → Bool) (x : K) : List K → List K
  | [] => [x]
  | y :: r => if lt x y = true then x :: y :: r else if x = y then y :: r else y :: ins1 lt x r
def rise (lt : K → K → Bool) (ks : List K) : List K := ks.foldr (ins1 lt) []
abbrev Rising (lt : K → K → Bool) (ks : List K) : Prop := ks.Pairwise fun a b => lt a b = true
theorem mem_ins1 (O : Ord lt) {x z : K} : ∀ {l : List K}, z ∈ ins1 lt x l ↔ z = x ∨ z ∈ l
  | [] => by simp [ins1]
  | y :: r => by
    unfold ins1
    split
    · simp
    · split
      · rename_i e
        subst e
        simp
      · rw [List.mem_cons, mem_ins1 O, List.mem_cons]
        constructor
        · rintro (h | h | h)
          · exact .inr (.inl h)
          · exact .inl h
          · exact .inr (.inr h)
        · rintro (h | h | h)
          · exact .inr (.inl h)
          · exact .inl h
          · exact .inr (.inr h)
theorem rising_ins1 (O : Ord lt) {x : K} : ∀ {l : List K}, Rising lt l → Rising lt (ins1 lt x l)
  | [], _ => List.pairwise_singleton _ _
  | y :: r, h => by
    obtain ⟨h1, h2⟩ := List.pairwise_cons.mp h
    unfold ins1
    split
    · rename_i q
      exact List.pairwise_cons.mpr ⟨fun z m => by
        rcases List.mem_cons.mp m with rfl | m
        · exact q
        · exact O.trans _ _ _ q (h1 z m), h⟩
    · split
      · exact h
      · rename_i q e
        refine List.pairwise_cons.mpr ⟨fun z m => ?_, rising_ins1 O h2⟩
        rcases (mem_ins1 O).mp m with rfl | m
        · rcases O.tri z y with t | t | t
          · exact absurd t q
          · exact absurd t e
          · exact t
        · exact h1 z m
theorem mem_rise (O : Ord lt) {z : K} : ∀ {l : List K}, z ∈ rise lt l ↔ z ∈ l
  | [] => Iff.rfl
  | x :: l => by
    show z ∈ ins1 lt x (rise lt l) ↔ _
    rw [mem_ins1 O, mem_rise O, List.mem_cons]
theorem rising_rise (O : Ord lt) : ∀ l : List K, Rising lt (rise lt l)
  | [] => List.Pairwise.nil
  | x :: l => rising_ins1 O (rising_rise O l)
theorem rising_nodup (O : Ord lt) {l : List K} (h : Rising lt l) : l.Nodup := h.imp fun {a b} q e => by
  rw [e, O.irr] at q
  cases q
theorem rising_one (O : Ord lt) : ∀ {l m : List K}, Rising lt l → Rising lt m → (∀ z, z ∈ l ↔ z ∈ m) → l = m
  | [], [], _, _, _ => rfl
  | [], y :: m, _, _, h => nomatch (h y).mpr List.mem_cons_self
  | x :: l, [], _, _, h => nomatch (h x).mp List.mem_cons_self
  | x :: l, y :: m, a, b, h => by
    obtain ⟨a1, a2⟩ := List.pairwise_cons.mp a
    obtain ⟨b1, b2⟩ := List.pairwise_cons.mp b
    have e : x = y := by
      rcases List.mem_cons.mp ((h x).mp List.mem_cons_self) with e | m1
      · exact e
      rcases List.mem_cons.mp ((h y).mpr List.mem_cons_self) with e | m2
      · exact e.symm
      have z := O.trans _ _ _ (b1 x m1) (a1 y m2)
      rw [O.irr] at z
      cases z
    subst e
    rw [rising_one O a2 b2 fun z => ?_]
    have q := h z
    rw [List.mem_cons, List.mem_cons] at q
    constructor
    · intro m1
      rcases q.mp (.inr m1) with e | r
      · have t := a1 z m1
        rw [e, O.irr] at t
        cases t
      · exact r
    · intro m1
      rcases q.mpr (.inr m1) with e | r
      · have t := b1 z m1
        rw [e, O.irr] at t
        cases t
      · exact r
theorem nodup_len : ∀ (l D : List K), l.Nodup → (∀ x ∈ l, x ∈ D) → l.length ≤ D.length
  | [], _, _, _ => Nat.zero_le _
  | x :: l, D, nd, h => by
    obtain ⟨n1, n2⟩ := List.nodup_cons.mp nd
    have ih := nodup_len l (D.erase x) n2 fun y m => (List.mem_erase_of_ne (fun e => n1 (by rw [← e]; exact m))).mpr (h y (List.mem_cons_of_mem _ m))
    have m := h x List.mem_cons_self
    have p := List.length_pos_of_mem m
    rw [List.length_erase_of_mem m] at ih
    rw [List.length_cons]
    omega
theorem few_of (O : Ord lt) {ks : List K} {n : Nat} (h : (rise lt ks).length < n) : ∀ M : List K, M.Nodup → (∀ k ∈ M, k ∈ ks) → M.length < n := fun M nd sub =>
  Nat.lt_of_le_of_lt (nodup_len M _ nd fun k m => (mem_rise O).mpr (sub k m)) h
end

theorem pick_back {α β : Type} {f : α → β} {zs : List α} : ∀ {l : List β}, (∀ p ∈ l, p ∈ zs.map f) → ∃ m : List α, l = m.map f ∧ ∀ z ∈ m, z ∈ zs
  | [], _ => ⟨[], rfl, fun _ m => nomatch m⟩
  | x :: l, h => by
    obtain ⟨z, mz, e⟩ := List.mem_map.mp (h x List.mem_cons_self)
    obtain ⟨m, e2, s⟩ := pick_back fun p hp => h p (List.mem_cons_of_mem _ hp)
    refine ⟨z :: m, by rw [List.map_cons, e, e2], fun y my => ?_⟩
    rcases List.mem_cons.mp my with rfl | my
    · exact mz
    · exact s y my
theorem vals_map {xs : List (V × Value × K)} : (∀ y ∈ xs, RelV y.1 y.2.1) → Vals (xs.map (·.1)) (xs.map (·.2.1)) := by
  induction xs with
  | nil => intro _; exact .nil
  | cons y xs ih => intro h; exact .cons (h y List.mem_cons_self) (ih fun z m => h z (List.mem_cons_of_mem _ m))
theorem vals_zip {zs : List (V × K)} : ∀ {us : List Value}, Vals (zs.map (·.1)) us → ∃ ws : List (V × Value × K), (ws.map fun y => (y.1, y.2.2)) = zs ∧ ws.map (·.2.1) = us ∧ ∀ y ∈ ws, RelV y.1 y.2.1 := by
  induction zs with
  | nil => intro us h; cases h; exact ⟨[], rfl, rfl, fun _ m => nomatch m⟩
  | cons z zs ih =>
    intro us h
    cases h with
    | @cons _ u _ us r t =>
      obtain ⟨ws, e1, e2, g⟩ := ih t
      refine ⟨(z.1, u, z.2) :: ws, by rw [List.map_cons, e1], by rw [List.map_cons, e2], fun y m => ?_⟩
      rcases List.mem_cons.mp m with rfl | m
      · exact r
      · exact g y m

def Set0 {P : Program} {w : World} (κ : Kd P w K) (a : Addr) (L : List (Value × K)) (h : Heap) : Prop :=
  ∃ o es ep t, h.get? a = some o ∧ o.ExactSet ∧ o.data = .set es ep t ∧ es.toList = L.map κ.row ∧ (L.map Prod.snd).Nodup ∧ t.fits es.size = true ∧ Ris t.place.toList ∧
    (w.params.followText "set-order" = true ∨ t.led = true) ∧ L.length < 64 ∧ κ.also t (L.map fun p => κ.code p.2)
def setHO {P : Program} {w : World} (κ : Kd P w K) (a : Addr) (L : List (Value × K)) : HO := .ext (Set0 κ a L)
theorem set0_of {P : Program} {w : World} {κ : Kd P w K} {h : Heap} {a : Addr} {L : List (Value × K)} : SetAt κ h a L → Set0 κ a L h
  | ⟨o, es, ep, t, R⟩ => ⟨o, es, ep, t, R.at_, R.exact_, R.dat, R.rows, R.alone, R.fit, R.up, R.lead, R.few, R.also⟩
theorem of_set0 {P : Program} {w : World} {κ : Kd P w K} {h : Heap} {a : Addr} {L : List (Value × K)} : Set0 κ a L h → (∀ p ∈ L, κ.holds h p.2 p.1) → SetAt κ h a L
  | ⟨o, es, ep, t, h1, h2, h3, h4, h5, h6, h7, h8, h9, h10⟩, m => ⟨o, es, ep, t, h1, h2, h3, h4, h5, m, h6, h7, h8, h9, h10⟩
theorem set0_ok {P : Program} {w : World} {κ : Kd P w K} {H : Hp} {h : Heap} {a : Addr} {L : List (Value × K)} (g : Set0 κ a L h) : ObjOk P w H h a (setHO κ a L) := by
  obtain ⟨o, es, ep, t, h1, r⟩ := id g
  exact ⟨g, ⟨o, h1⟩, fun x y ⟨o', es', ep', t', z, r'⟩ k => ⟨o', es', ep', t', k o' z, r'⟩⟩

section
variable {X : Cx} {κ : Kd X.prog X.w K} {kv : Hp → V → K → Prop}
def Reads (X : Cx) (κ : Kd X.prog X.w K) (kv : Hp → V → K → Prop) : Prop := ∀ {pins : List (Addr × Obj)} {σ : L2.St} {H : Hp} {s : Shared} {x : V} {k : K} {u : Value}, Inv X pins σ H s → kv H x k → RelV x u → κ.holds s.heap k u
def rSet (κ : Kd X.prog X.w K) (kv : Hp → V → K → Prop) : List V → Hp → VK → Prop := fun xs H Q => ∃ (l : Addr) (zs : List (V × K)), xs = [V.ref l] ∧ SqL X.K H l (zs.map (·.1)) ∧ (∀ z ∈ zs, kv H z.1 z.2) ∧
  (∀ M : List K, M.Nodup → (∀ k ∈ M, k ∈ zs.map (·.2)) → M.length < 64) ∧
  ∀ a (Ls : List (V × Value × K)), H a = none → (∀ y ∈ Ls, (y.1, y.2.2) ∈ zs ∧ RelV y.1 y.2.1) → (Ls.map (·.2.2)).Nodup → (∀ z ∈ zs, z.2 ∈ Ls.map (·.2.2)) → Q (.ref a) (upd H a (setHO κ a (Ls.map (·.2))))
theorem cr_set (rd : Reads X κ kv) (tk : Takes κ) (h0 : κ.also (.fresh 0 0 (!X.w.params.followText "set-order")) []) (hc : X.calm = true) (hu : κ.calm X.A.in1.in1.in1) : CallR X (.type "set") (rSet κ kv) := by
  intro pins s σ H xs us Q I r ⟨l, zs, e, hl, hk, few, q⟩
  subst e
  rw [Vals.ref1 r]
  obtain ⟨its, rv, pl, hz⟩ := I.list hl
  obtain ⟨ws, e1, e2, rl⟩ := vals_zip rv
  have hn : H s.heap.objs.size = none := I.hok.fresh (Nat.le_refl _)
  have inz : ∀ y ∈ ws, (y.1, y.2.2) ∈ zs := fun y m => by rw [← e1]; exact List.mem_map_of_mem m
  have keys : (ws.map (·.2)).map Prod.snd = zs.map (·.2) := by rw [← e1, List.map_map, List.map_map]; rfl
  refine make_set tk h0 (ws.map (·.2)) (I.ok.hd hc) pl.isList (by rw [List.map_map]; show _ = ws.map (·.2.1); rw [e2]) (fun p m => ?_) (by rw [keys]; exact few) hu fun h' t' L S g k => ?_
  · obtain ⟨y, my, rfl⟩ := List.mem_map.mp m
    exact rd I (hk _ (inz y my)) (rl y my)
  · obtain ⟨Ls, e3, sub⟩ := pick_back (f := fun y : V × Value × K => y.2) (zs := ws) fun p m => List.mem_of_mem_take (g.from_ p m)
    subst e3
    have al : (Ls.map (·.2.2)).Nodup := by
      obtain ⟨_, _, _, _, R⟩ := S
      have z := R.alone
      rw [List.map_map] at z
      exact z
    refine ⟨.ref s.heap.objs.size, upd H s.heap.objs.size (setHO κ s.heap.objs.size (Ls.map (·.2))), I.laid (t' := t') k (Nat.le_refl _) (set0_ok (set0_of S)), rfl, q _ Ls hn (fun y m => ⟨inz y (sub y m), rl y (sub y m)⟩) al fun z mz => ?_⟩
    have m1 : z.2 ∈ (ws.map (·.2)).map Prod.snd := by rw [keys]; exact List.mem_map_of_mem mz
    obtain ⟨p, mp, ep⟩ := List.mem_map.mp m1
    have m2 := g.all p (by rw [List.take_length]; exact mp)
    rw [ep, List.map_map] at m2
    exact m2
def rSortSet (κ : Kd X.prog X.w K) (kv : Hp → V → K → Prop) (good : K → Prop) (lt : K → K → Bool) : List V → Hp → VK → Prop := fun vs H Q => ∃ (a : Addr) (Ls : List (V × Value × K)), vs = [V.ref a] ∧ H a = some (setHO κ a (Ls.map (·.2))) ∧
  (∀ y ∈ Ls, kv H y.1 y.2.2 ∧ RelV y.1 y.2.1 ∧ good y.2.2) ∧
  ∀ (M : List (V × Value × K)) (p : Addr), M.Perm Ls → Rising lt (M.map (·.2.2)) → H p = none → Q (.ref p) (upd H p (.lst (M.map (·.1))))
theorem cr_sortSet {good : K → Prop} {lt : K → K → Bool} (rd : Reads X κ kv) (C : Cmps κ lt good) (O : Ord lt) (hc : X.calm = true) : CallR X (.builtin "sorted") (rSortSet κ kv good lt) := by
  intro pins s σ H vs us Q I r ⟨a, Ls, e, ha, hk, q⟩
  subst e
  rw [Vals.ref1 r]
  have g0 : Set0 κ a (Ls.map (·.2)) s.heap := (I.hok a _ ha).1
  have few : Ls.length < 64 := by
    obtain ⟨_, _, _, _, _, _, _, _, _, _, _, _, z, _⟩ := g0
    rw [List.length_map] at z
    exact z
  refine sort_set C O (of_set0 g0 fun p m => ?_) (fun p m => ?_) (I.ok.hd hc) fun s' p out c M0 k g o hp hg hout pm pw => ?_
  · obtain ⟨y, my, rfl⟩ := List.mem_map.mp m
    exact rd I (hk y my).1 (hk y my).2.1
  · obtain ⟨y, my, rfl⟩ := List.mem_map.mp m
    exact (hk y my).2.2
  · obtain ⟨M, e, pM⟩ := perm_back pm
    subst e
    have len : (M.map (·.1)).length ≤ sizeLine := by rw [List.length_map, pM.length_eq, sizeLine_eq]; omega
    have hn : H p = none := I.hok.fresh hp
    have hv : Vals (M.map (·.1)) out.toList := by
      rw [hout, List.map_map]
      exact vals_map fun y m => (hk y (pM.mem_iff.mp m)).2.1
    have J : Inv X pins σ (upd H p (.lst (M.map (·.1)))) { s with heap := s'.heap, gens := s'.gens, drawn := s'.drawn, toks := s'.toks } :=
      I.call (ch := []) (Un.laid k hp hn) (I.hok.laid k hp ⟨len, out.toList, c, hv, hg⟩) (by rw [g]; exact I.bare) (fun _ z => nomatch z)
    have e : s' = { s with heap := s'.heap, gens := s'.gens, drawn := s'.drawn, toks := s'.toks } := by
      cases s'
      cases s
      cases o
      rfl
    rw [e]
    exact ⟨.ref p, _, J, rfl, q M p pM (List.pairwise_map.mpr (List.pairwise_map.mp pw)) hn⟩
end
end DL.KS

set_option Elab.async false
set_option linter.all false
set_option maxRecDepth 100000
set_option maxHeartbeats 1000000
namespace DL
open PySem L2
open KS (Kd Reads Takes Cmps Ord rise Rising kT kV tLt sLt iLt)
variable {X : Cx} {T : Gt} {W : WX} {K : Type} [DecidableEq K]

def dSSk (key : D → Option K) (lt : K → K → Bool) (kd : K → D) (a : Den) : Den := fun ε S => (a ε S).bind fun d S => match litems S d with
  | some ds => (match fall key ds with
    | some ks => if (rise lt ks).length < 64 then .ok (.ref S.length) (S ++ [.lst ((rise lt ks).map kd)]) else .bad
    | none => .bad)
  | none => .bad
theorem rvs_zip {F : PySem.W.Frag} {μ : List Addr} {H : Hp} {kd : K → D} : ∀ {ks : List K} {xs : List V}, RVs F μ H xs (ks.map kd) → ∃ zs : List (V × K), zs.map (·.1) = xs ∧ zs.map (·.2) = ks ∧ ∀ z ∈ zs, RV F μ H z.1 (kd z.2)
  | [], _, .nil => ⟨[], rfl, rfl, fun _ m => nomatch m⟩
  | k :: ks, x :: xs, .cons h t => by
    obtain ⟨zs, e1, e2, g⟩ := rvs_zip t
    refine ⟨(x, k) :: zs, by rw [List.map_cons, e1], by rw [List.map_cons, e2], fun z m => ?_⟩
    rcases List.mem_cons.mp m with rfl | m
    · exact h
    · exact g z m
theorem rvs_of {F : PySem.W.Frag} {μ : List Addr} {H : Hp} {kd : K → D} : ∀ {M : List (V × Value × K)}, (∀ y ∈ M, RV F μ H y.1 (kd y.2.2)) → RVs F μ H (M.map (·.1)) ((M.map (·.2.2)).map kd)
  | [], _ => .nil
  | y :: M, h => .cons (h y List.mem_cons_self) (rvs_of fun z m => h z (List.mem_cons_of_mem _ m))
theorem fall_kd {key : D → Option K} {kd : K → D} (hk : ∀ d k, key d = some k → d = kd k) {ds : List D} {ks : List K} (h : fall key ds = some ks) : ds = ks.map kd := by
  induction ds generalizing ks with
  | nil => cases h; rfl
  | cons d ds ih =>
    unfold fall at h
    split at h
    · cases h
      rename_i b s h1 h2
      rw [List.map_cons, ← ih h2, ← hk _ _ h1]
    · cases h
theorem fall_gd {key : D → Option K} {good : K → Prop} (hk : ∀ d k, key d = some k → good k) {ds : List D} {ks : List K} (h : fall key ds = some ks) : ∀ k ∈ ks, good k := by
  induction ds generalizing ks with
  | nil => cases h; exact fun _ m => nomatch m
  | cons d ds ih =>
    unfold fall at h
    split at h
    · cases h
      rename_i b s h1 h2
      intro k m
      rcases List.mem_cons.mp m with rfl | m
      · exact hk _ _ h1
      · exact ih h2 k m
    · cases h
section
variable {κ : Kd X.prog X.w K} {kv : Hp → V → K → Prop} {good : K → Prop} {lt : K → K → Bool} {key : D → Option K} {kd : K → D} {e : Expr} {a : Den} {p1 p2 p3 p4 : Pos}
theorem pd_ssk (rd : Reads X κ kv) (C : Cmps κ lt good) (O : Ord lt) (tk : Takes κ) (h0 : κ.also (.fresh 0 0 (!X.w.params.followText "set-order")) []) (hc : X.calm = true) (hu : κ.calm X.A.in1.in1.in1)
    (hk : ∀ d k, key d = some k → d = kd k) (hgd : ∀ d k, key d = some k → good k) (hkv : ∀ μ H v k, RV X.K μ H v (kd k) → kv H v k)
    (hg : Gl X "sorted") (hm : X.mg "sorted" = none) (hg2 : Gl X "set") (hm2 : X.mg "set" = none) (ha : PE X e (tD (gx X T) W a))
    (hst : starEach [e] X.env = (false, eval e X.env) :: starEach [] X.env := by rfl) :
    PE X (.Call (.Name "sorted" p1) [.Call (.Name "set" p2) [e] [] p3] [] p4) (tD (gx X T) W (dSSk key lt kd a)) := by
  refine (pe_callB (KS.cr_sortSet rd C O hc) hg hm rfl (pa_cons (pe_callTy (KS.cr_set rd tk h0 hc hu) hg2 hm2 rfl (pa_cons ha pa_nil hst) (he := hst)) pa_nil)).imp fun σ H Q ⟨ε, μ, S, sr, hs, h⟩ => ?_
  refine (⟨ε, μ, S, sr, hs, (wR.bind (Rl := rlV (gx X T)) sr h).imp fun v H1 ⟨d, μ1, S1, g1, hs1, sr1, r1, h1⟩ => ?_⟩ : tD (gx X T) W a σ H fun v H1 => KS.rSet κ kv [v] H1 fun x H2 => KS.rSortSet κ kv good lt [x] H2 Q)
  split at h1
  · rename_i ds hd
    split at h1
    · rename_i ks hks
      split at h1
      · rename_i few
        have eds := fall_kd hk hks
        subst eds
        obtain ⟨l, xs, rfl, hl, rs⟩ := litems_of hs1 r1 hd
        obtain ⟨zs, e1, e2, rz⟩ := rvs_zip rs
        refine ⟨l, zs, rfl, by rw [e1]; exact hl, fun z m => hkv _ _ _ _ (rz z m), by rw [e2]; exact KS.few_of O few, fun b Ls hn sub nd cov => ?_⟩
        have G := Gr.new (μ := μ1) (H := H1) (o := KS.setHO κ b (Ls.map (·.2))) hn
        have rv : ∀ y ∈ Ls, RV X.K μ1 (upd H1 b (KS.setHO κ b (Ls.map (·.2)))) y.1 (kd y.2.2) := fun y m => (rz _ (sub y m).1).mono G
        refine ⟨b, Ls, rfl, upd_same, fun y m => ⟨hkv _ _ _ _ (rv y m), (sub y m).2, ?_⟩, fun M p pm ris hp => ?_⟩
        · refine fall_gd hgd hks _ ?_
          rw [← e2]
          exact List.mem_map_of_mem (f := fun z : V × K => z.2) (sub y m).1
        · have hs2 := hs1.beside (u := KS.setHO κ b (Ls.map (·.2))) hn
          have ek : M.map (·.2.2) = rise lt ks := KS.rising_one O ris (KS.rising_rise O ks) fun z => by
            rw [KS.mem_rise O, (pm.map (·.2.2)).mem_iff]
            constructor
            · intro m
              obtain ⟨y, my, rfl⟩ := List.mem_map.mp m
              rw [← e2]
              exact List.mem_map_of_mem (f := fun z : V × K => z.2) (sub y my).1
            · intro m
              rw [← e2] at m
              obtain ⟨y, my, rfl⟩ := List.mem_map.mp m
              exact cov y my
          have rl : RVs X.K μ1 (upd H1 b (KS.setHO κ b (Ls.map (·.2)))) (M.map (·.1)) ((rise lt ks).map kd) := by
            rw [← ek]
            exact rvs_of fun y m => rv y (pm.mem_iff.mp m)
          exact h1 _ _ _ (G.trans (Gr.obj hp)) (hs2.grow hp ⟨_, upd_same, rl.mono (Gr.obj hp)⟩) (.ref hs2.last)
      · exact h1.elim
    · exact h1.elim
  · exact h1.elim
end
def keyX : D → Option (List Str)
  | .tup ds => (match fall strD ds with
    | some [] => none
    | r => r)
  | _ => none
def unK (k : List Str) : D := .tup (k.map D.str)
theorem keyX_un {d : D} {k : List Str} (h : keyX d = some k) : d = unK k ∧ k ≠ [] := by
  cases d with
  | tup ds =>
    simp only [keyX] at h
    split at h
    · cases h
    · rename_i ne
      exact ⟨by rw [fall_strs h]; rfl, fun e => by subst e; exact ne h⟩
  | _ => cases h
theorem strD_un {d : D} {k : Str} (h : strD d = some k) : d = .str k := by cases d <;> cases h; rfl
theorem intD_un {d : D} {k : Int} (h : intD d = some k) : d = .int k := by cases d <;> cases h; rfl
def kvT (F : PySem.W.Frag) (H : Hp) (x : V) (k : List Str) : Prop := ∃ p, x = .ref p ∧ SqT F H p (k.map V.str)
theorem items_texts {P : Program} {w : World} : ∀ {k : List Str} {us : List Value}, Vals (k.map V.str) us → ItemsAre (PySem.strKind P w) k us
  | [], _, .nil => .nil
  | n :: k, _, .cons r t => by
    obtain ⟨u, rfl⟩ := r
    exact .cons (strKind_is P w n u) (items_texts t)
theorem rd_tup : Reads X (kT X.prog X.w) (kvT X.K) := fun {pins σ H s x k u} I ⟨p, e, h⟩ r => by
  subst e
  obtain ⟨its, rv, ⟨o, ho, hc, n, hd⟩, _⟩ := I.tuple h
  exact ⟨p, r, o, its.toArray, n, ho, hc, hd, by simpa using items_texts rv⟩
theorem rd_str : Reads X (kV (PySem.strKind X.prog X.w)) (fun _ x k => x = .str k) := fun {pins σ H s x k u} I e r => by
  subst e
  obtain ⟨t, rfl⟩ := r
  exact strKind_is _ _ _ _
theorem rd_int : Reads X (kV (PySem.intKind X.prog X.w)) (fun _ x k => x = .int k) := fun {pins σ H s x k u} I e r => by
  subst e
  obtain ⟨t, rfl⟩ := r
  exact intKind_is _ _ _ _
theorem ints_are {P : Program} {w : World} : ∀ vs : List Value, (∀ v ∈ vs, ∃ x u, v = Value.int x u) → ∃ xs, PyProof.Rows.IntsAre vs xs
  | [], _ => ⟨[], .nil⟩
  | v :: vs, h => by
    obtain ⟨x, u, rfl⟩ := h v List.mem_cons_self
    obtain ⟨xs, r⟩ := ints_are (P := P) (w := w) vs fun y m => h y (List.mem_cons_of_mem _ m)
    exact ⟨x :: xs, .cons x u r⟩
theorem cmps_ints {P : Program} {w : World} : Cmps (kV (PySem.intKind P w)) iLt (fun _ => True) := by
  intro A E s vs Q two all hQ
  obtain ⟨xs, r⟩ := ints_are (P := P) (w := w) vs fun v m => by
    obtain ⟨k, hk, _⟩ := all v m
    obtain ⟨t, e⟩ := Value.isInt_shape hk
    exact ⟨k, t, e⟩
  match vs, two, all, hQ, r with
  | v1 :: v2 :: vs, two, all, hQ, r =>
    rw [PyProof.Rows.keyKind_ints r]
    refine wpAny_pure (hQ _ fun u hu v hv k j hk hj C E' q => ?_)
    obtain ⟨t, rfl⟩ := Value.isInt_shape hk
    obtain ⟨t', rfl⟩ := Value.isInt_shape hj
    exact PySem.W.kat_lt_int q
def dSS (a : Den) : Den := fun ε S => match dSSk keyX tLt unK a ε S with
  | .bad => (match dSSk strD sLt D.str a ε S with
    | .bad => dSSk intD iLt D.int a ε S
    | r => r)
  | r => r
theorem pd_ss {e : Expr} {a : Den} {p1 p2 p3 p4 : Pos} (hc : X.calm = true) (hu : X.A.units + 65 < cLine) (hg : Gl X "sorted") (hm : X.mg "sorted" = none) (hg2 : Gl X "set") (hm2 : X.mg "set" = none) (ha : PE X e (tD (gx X T) W a))
    (hst : starEach [e] X.env = (false, eval e X.env) :: starEach [] X.env := by rfl) :
    PE X (.Call (.Name "sorted" p1) [.Call (.Name "set" p2) [e] [] p3] [] p4) (tD (gx X T) W (dSS a)) := by
  have h1 := pd_ssk (p1 := p1) (p2 := p2) (p3 := p3) (p4 := p4) (key := keyX) (kd := unK) (rd_tup (X := X)) KS.cmps_tups KS.ord_tup KS.takes_tups (KS.also_tups _ _) hc (by show X.A.units + 1 + 1 + 1 < cLine; omega) (fun d k h => (keyX_un h).1) (fun d k h => (keyX_un h).2)
    (fun μ H v k r => by cases r with | tup t _ rs => exact ⟨_, rfl, by rw [← rs.strs]; exact t.sq⟩) hg hm hg2 hm2 ha hst
  have h2 := pd_ssk (p1 := p1) (p2 := p2) (p3 := p3) (p4 := p4) (key := strD) (kd := D.str) (rd_str (X := X)) KS.cmps_strs KS.ord_str (KS.takes_flat fun k v h => by obtain ⟨t, rfl⟩ := Value.isStrOf_shape h; rfl) trivial hc trivial (fun d k h => strD_un h) (fun d k h => trivial)
    (fun μ H v k r => by cases r; rfl) hg hm hg2 hm2 ha hst
  have h3 := pd_ssk (p1 := p1) (p2 := p2) (p3 := p3) (p4 := p4) (key := intD) (kd := D.int) (rd_int (X := X)) cmps_ints KS.ord_int (KS.takes_flat fun k v h => by obtain ⟨t, rfl⟩ := Value.isInt_shape h; rfl) trivial hc trivial (fun d k h => intD_un h) (fun d k h => trivial)
    (fun μ H v k r => by cases r; rfl) hg hm hg2 hm2 ha hst
  refine ⟨fun pins s σ H Q I ⟨ε, μ, S, sr, hs, h⟩ => ?_⟩
  unfold dSS at h
  split at h
  · split at h
    · exact h3.run pins s σ H Q I ⟨ε, μ, S, sr, hs, h⟩
    · exact h2.run pins s σ H Q I ⟨ε, μ, S, sr, hs, h⟩
  · exact h1.run pins s σ H Q I ⟨ε, μ, S, sr, hs, h⟩
end DL

set_option Elab.async false
set_option linter.all false
set_option maxRecDepth 100000
set_option maxHeartbeats 1000000
namespace DL.KS
open PySem L2 PyProof.Rows
section
variable {P : Program} {w : World} {K : Type} [DecidableEq K] {κ : Kd P w K}
variable {A : Around} {E : Value → Shared → Prop} {s : Shared}
theorem sort_list {lt : K → K → Bool} {good : K → Prop} (C : Cmps κ lt good) (O : Ord lt) {l : Addr} {L : List (Value × K)} {Q : Value → Shared → Prop} (hl : s.heap.IsList l (L.map Prod.fst).toArray) (few : L.length < 64) (mem : ∀ p ∈ L, κ.holds s.heap p.2 p.1 ∧ good p.2)
    (hQ : ∀ s' p (out : Array Value) (c : Nat) (M : List (Value × K)), (∀ b o, s.heap.get? b = some o → s'.heap.get? b = some o) → s'.gens = s.gens → s'.os = s.os → s.heap.objs.size ≤ p →
      s'.heap.get? p = some (seqObj "list" out c) → out.toList = M.map Prod.fst → M.Perm L → M.Pairwise (fun q r => lt r.2 q.2 = false) → Q (.ref p) s') :
    wpAny (model P w) A (call (.builtin "sorted") [.ref l]) Q E s := by
  refine Calls.call_function_entry kind_sorted plain_sorted entry_sorted (args_sorted1 _) ?_
  unfold Builtin.«sorted»
  refine wpAny_bind (m := checkCount "sorted" 1 1 _) (wpAny_pure ?_)
  have hlen : (L.map Prod.fst).length = L.length := List.length_map _
  generalize hvs : L.map Prod.fst = vs at hl hlen
  refine wpAny_bind (collect_list hl ?_ (by rw [hlen, sizeLine_eq]; omega))
  generalize hh1 : (s.heap.push (seqObj "list" #[] 0)).update s.heap.objs.size (Obj.mapSeq (· ++ vs.toArray)) = h1
  have k1 : ∀ b u, s.heap.get? b = some u → h1.get? b = some u := fun b u e => by
    rw [← hh1]
    have lt := Heap.lt_size e
    exact (Heap.get?_update_other _ _ (Nat.ne_of_gt lt)).trans (Heap.get?_push_of_some _ e)
  have z1 : s.heap.objs.size ≤ h1.objs.size := by
    rw [← hh1, Heap.size_update, size_push']
    exact Nat.le_succ _
  have keep : ∀ b u, s.heap.get? b = some u → (h1.push (seqObj "list" vs.toArray 0)).get? b = some u := fun b u e => Heap.get?_push_of_some _ (k1 b u e)
  have keyed : ∀ q ∈ L, κ.holds (h1.push (seqObj "list" vs.toArray 0)) q.2 q.1 := fun q m => stay_all (mem q m).1 keep
  refine wpAny_bind (wpAny_newList ?_ (by rw [hlen, sizeLine_eq]; omega))
  have at1 : (h1.push (seqObj "list" vs.toArray 0)).get? h1.objs.size = some (seqObj "list" vs.toArray 0) := Heap.get?_push_size _ rfl
  refine wpAny_bind (wpAny_holding (sort_keys (s := { s with heap := h1.push (seqObj "list" vs.toArray 0) }) C O at1 (by rw [hlen]; exact few) (fun v m => ?_) fun out a1 a2 => ?_))
  · rw [← hvs] at m
    obtain ⟨q, hq, rfl⟩ := List.mem_map.mp m
    exact ⟨q.2, keyed q hq, (mem q hq).2⟩
  obtain ⟨c, hc⟩ := sortedHeap_at (vs := vs) (out := out) at1
  obtain ⟨M, e1, pM⟩ : ∃ M : List (Value × K), out.toList = M.map Prod.fst ∧ M.Perm L := by
    rw [← hvs] at a1
    exact perm_back a1
  have ups : M.Pairwise fun q r => lt r.2 q.2 = false := by
    rw [e1] at a2
    exact (List.pairwise_map.mp a2).imp_of_mem fun {q r} hq hr z => z q.2 r.2 (keyed q (pM.mem_iff.mp hq)) (keyed r (pM.mem_iff.mp hr))
  refine wpAny_pure ⟨_, rfl, hQ _ h1.objs.size out c M (fun b u e => ?_) rfl rfl z1 hc e1 pM ups⟩
  have q := k1 b u e
  have below := Heap.lt_size q
  show (sortedHeap (h1.push (seqObj "list" vs.toArray 0)) h1.objs.size vs out).get? b = some u
  rw [sortedHeap_old (Nat.ne_of_lt below) (by rw [size_push']; exact Nat.lt_succ_of_lt below)]
  exact keep b u e
end
section
variable {K : Type} [DecidableEq K] {lt : K → K → Bool}
def insS (lt : K → K → Bool) (x : K) : List K → List K
  | [] => [x]
  | y :: r => if lt y x = true then y :: insS lt x r else x :: y :: r
def sortK (lt : K → K → Bool) (ks : List K) : List K := ks.foldr (insS lt) []
abbrev Up (lt : K → K → Bool) (ks : List K) : Prop := ks.Pairwise fun a b => lt b a = false
theorem insS_perm (x : K) : ∀ l : List K, (insS lt x l).Perm (x :: l)
  | [] => .refl _
  | y :: r => by
    unfold insS
    split
    · exact ((insS_perm x r).cons y).trans (.swap x y r)
    · exact .refl _
theorem sortK_perm : ∀ l : List K, (sortK lt l).Perm l
  | [] => .refl _
  | x :: l => (insS_perm x _).trans ((sortK_perm l).cons x)
theorem insS_up (O : Ord lt) (x : K) : ∀ {l : List K}, Up lt l → Up lt (insS lt x l)
  | [], _ => List.pairwise_singleton _ _
  | y :: r, h => by
    obtain ⟨h1, h2⟩ := List.pairwise_cons.mp h
    unfold insS
    split
    · rename_i e
      refine List.pairwise_cons.mpr ⟨fun z hz => ?_, insS_up O x h2⟩
      rcases List.mem_cons.mp ((insS_perm x r).mem_iff.mp hz) with rfl | hz
      · exact O.asym e
      · exact h1 z hz
    · rename_i e
      have e : lt y x = false := by cases q : lt y x <;> simp_all
      refine List.pairwise_cons.mpr ⟨fun z hz => ?_, h⟩
      rcases List.mem_cons.mp hz with rfl | hz
      · exact e
      · have hy := h1 z hz
        cases q : lt z x with
        | false => rfl
        | true =>
          rcases O.tri y z with p | p | p
          · rw [O.trans _ _ _ p q] at e; cases e
          · subst p; rw [q] at e; cases e
          · rw [p] at hy; cases hy
theorem sortK_up (O : Ord lt) : ∀ l : List K, Up lt (sortK lt l)
  | [] => .nil
  | x :: l => insS_up O x (sortK_up O l)
theorem up_one (O : Ord lt) : ∀ {l m : List K}, l.Perm m → Up lt l → Up lt m → l = m
  | [], m, p, _, _ => p.symm.eq_nil.symm ▸ rfl
  | x :: l, [], p, _, _ => absurd p.eq_nil (by simp)
  | x :: l, y :: m, p, a, b => by
    obtain ⟨a1, a2⟩ := List.pairwise_cons.mp a
    obtain ⟨b1, b2⟩ := List.pairwise_cons.mp b
    have e : x = y := by
      by_cases q : x = y
      · exact q
      · have hx : x ∈ m := by
          rcases List.mem_cons.mp (p.mem_iff.mp List.mem_cons_self) with r | r
          · exact absurd r q
          · exact r
        have hy : y ∈ l := by
          rcases List.mem_cons.mp (p.mem_iff.mpr List.mem_cons_self) with r | r
          · exact absurd r.symm q
          · exact r
        have h1 := b1 x hx
        have h2 := a1 y hy
        rcases O.tri x y with r | r | r
        · rw [r] at h1; cases h1
        · exact r
        · rw [r] at h2; cases h2
    subst e
    rw [up_one O (p.cons_inv) a2 b2]
theorem sortK_is (O : Ord lt) {l m : List K} (p : m.Perm l) (h : Up lt m) : sortK lt l = m := up_one O ((sortK_perm l).trans p.symm) (sortK_up O l) h
end
section
variable {X : Cx} {K : Type} [DecidableEq K] {κ : Kd X.prog X.w K} {kv : Hp → V → K → Prop}
def rSortL (κ : Kd X.prog X.w K) (kv : Hp → V → K → Prop) (good : K → Prop) (lt : K → K → Bool) : List V → Hp → VK → Prop := fun vs H Q => ∃ (a : Addr) (zs : List (V × K)), vs = [V.ref a] ∧ SqL X.K H a (zs.map (·.1)) ∧ zs.length < 64 ∧
  (∀ z ∈ zs, kv H z.1 z.2 ∧ good z.2) ∧ ∀ (M : List (V × K)) (p : Addr), M.Perm zs → Up lt (M.map (·.2)) → H p = none → Q (.ref p) (upd H p (.lst (M.map (·.1))))
theorem cr_sortL {good : K → Prop} {lt : K → K → Bool} (rd : Reads X κ kv) (C : Cmps κ lt good) (O : Ord lt) (hc : X.calm = true) : CallR X (.builtin "sorted") (rSortL κ kv good lt) := by
  intro pins s σ H vs us Q I r ⟨a, zs, e, ha, few, hk, q⟩
  subst e
  rw [Vals.ref1 r]
  obtain ⟨its, rv, pl, hz⟩ := I.list ha
  obtain ⟨ws, e1, e2, rl⟩ := vals_zip rv
  have inz : ∀ y ∈ ws, (y.1, y.2.2) ∈ zs := fun y m => by rw [← e1]; exact List.mem_map_of_mem m
  have lz : ws.length = zs.length := by rw [← e1, List.length_map]
  refine sort_list (L := ws.map (·.2)) C O (by have := pl.isList; rw [← e2] at this; rw [List.map_map]; exact this) (by rw [List.length_map, lz]; exact few) (fun p m => ?_) fun s' p out c M0 k g o hp hg hout pm pw => ?_
  · obtain ⟨y, my, rfl⟩ := List.mem_map.mp m
    exact ⟨rd I (hk _ (inz y my)).1 (rl y my), (hk _ (inz y my)).2⟩
  · obtain ⟨M, e, pM⟩ := perm_back pm
    subst e
    have len : ((M.map fun y => (y.1, y.2.2)).map (·.1)).length ≤ sizeLine := by rw [List.length_map, List.length_map, pM.length_eq, lz, sizeLine_eq]; omega
    have hn : H p = none := I.hok.fresh hp
    have hv : Vals ((M.map fun y => (y.1, y.2.2)).map (·.1)) out.toList := by
      rw [hout, List.map_map, List.map_map]
      exact vals_map fun y m => rl y (pM.mem_iff.mp m)
    have J : Inv X pins σ (upd H p (.lst ((M.map fun y => (y.1, y.2.2)).map (·.1)))) { s with heap := s'.heap, gens := s'.gens, drawn := s'.drawn, toks := s'.toks } :=
      I.call (ch := []) (Un.laid k hp hn) (I.hok.laid k hp ⟨len, out.toList, c, hv, hg⟩) (by rw [g]; exact I.bare) (fun _ z => nomatch z)
    have e : s' = { s with heap := s'.heap, gens := s'.gens, drawn := s'.drawn, toks := s'.toks } := by
      cases s'
      cases s
      cases o
      rfl
    rw [e]
    refine ⟨.ref p, _, J, rfl, q (M.map fun y => (y.1, y.2.2)) p ?_ ?_ hn⟩
    · rw [← e1]; exact pM.map _
    · rw [List.map_map]
      exact List.pairwise_map.mpr ((List.pairwise_map.mp pw).imp fun h => h)
end
end DL.KS

set_option Elab.async false
set_option linter.all false
set_option maxRecDepth 100000
set_option maxHeartbeats 1000000
namespace DL
open PySem PySem.Spec PyProof.Rows L2
theorem meets_enum1 {v : Value} {o : Obj} {H : Heap → Prop} (B : Begins v o H) :
    Meets (Builtin.«enumerate.__new__» ⟨[.type "enumerate", v], []⟩) (fun _ R s => H s.heap ∧
      R (.ok (.ret (.ref (s.heap.push o).objs.size))) { s with heap := (s.heap.push o).push { cls := .type "enumerate", data := .fields #[.none, .bool false, .ref s.heap.objs.size, rawInt 0, .none, .none] } }) :=
  .of_wp fun prog w A R s ⟨h1, h⟩ => by
    obtain ⟨hp, g, d, tk, os⟩ := s
    have hsub := sub_enumerate
    have q1 : ∀ {A' : Around} {E : Value → Shared → Prop} {Q : Value → Shared → Prop}, Q (.ref hp.objs.size) ⟨hp.push o, g, d, tk, os⟩ → wpAny (model prog w) A' (pyIter v) Q E ⟨hp, g, d, tk, os⟩ := fun q => B.iter prog w _ _ ⟨hp, g, d, tk, os⟩ _ h1 q
    wp_walk using q1
    refine wpAny_stack_any fun st => wpAny_pure ?_
    split
    · rename_i c _ _ _ _ _
      cases (c == Value.type "enumerate")
      · wp_walk using q1
        exact ⟨_, rfl, h⟩
      · wp_walk using q1
        exact ⟨_, rfl, h⟩
    · wp_walk using q1
      exact ⟨_, rfl, h⟩
section
variable {prog : Program} {w : World} {A : Around} {E : Value → Shared → Prop} {s : Shared}
theorem call_enum1 {v : Value} {o : Obj} {H : Heap → Prop} {Q : Value → Shared → Prop} (B : Begins v o H) (h1 : H s.heap)
    (h : ∀ h', IsEnum h' (s.heap.objs.size + 1) s.heap.objs.size 0 .none → h'.get? s.heap.objs.size = some o → h'.objs.size = s.heap.objs.size + 2 → (∀ b u, s.heap.get? b = some u → h'.get? b = some u) → Q (.ref (s.heap.objs.size + 1)) { s with heap := h' }) :
    wpAny (model prog w) A (call (.type "enumerate") [v]) Q E s := by
  refine callType_new F.called_enumerate (by decide) (F.typeCall_enumerate_1 _) (F.newCall_enumerate_1 _) (fun obj => F.args_object_init_2 obj _) F.entry_enumerate_new (meets_enum1 B) ⟨h1, ?_⟩
  have z : (s.heap.push o).objs.size = s.heap.objs.size + 1 := Heap.size_push ..
  show _ ∧ _
  rw [z]
  have he : ((s.heap.push o).push { cls := .type "enumerate", data := .fields #[.none, .bool false, .ref s.heap.objs.size, rawInt 0, .none, .none] }).get? (s.heap.objs.size + 1) = some { cls := .type "enumerate", data := .fields #[.none, .bool false, .ref s.heap.objs.size, rawInt 0, .none, .none] } := by
    rw [← z]; exact Heap.get?_push_size _ rfl
  exact ⟨⟨_, he, rfl⟩, h _ he (Heap.get?_push_of_some _ (Heap.get?_push_size _ B.free)) (by rw [Heap.size_push, z]) fun b u e => Heap.get?_push_of_some _ (Heap.get?_push_of_some _ e)⟩
end
def IteT (K : PySem.W.Frag) (a : Addr) : It :=
  ⟨fun i H => ∃ (xs : List V) (x : V), SqT K H a xs ∧ xs[i]? = some x, fun i H v H' => ∃ T x, v = .ref T ∧ H T = none ∧ H' = upd H T (.tup [.int (i : Nat), x]) ∧ ∀ xs, SqT K H a xs → xs[i]? = some x, fun i H => ∃ xs : List V, SqT K H a xs ∧ xs.length ≤ i⟩
theorem turn_enumT {P : Program} {w : World} {K : PySem.W.Frag} {elts : List Expr} {kk : Nat} {tpos : Pos} (a e it : Addr) :
    Turn P w K (.Tuple elts kk tpos) (IteT K a) [e, it] e (fun i h => (∃ old, IsEnum h e it ((i : Nat) : Int) old) ∧ h.IsTupleIter it a i ∧ e ≠ it ∧ a ≠ e ∧ a ≠ it) where
  mem := by simp
  obj := fun i h ⟨⟨old, he⟩, ⟨o, ho, hc, hd⟩, _⟩ b hb => by
    rcases (show b = e ∨ b = it by simpa using hb) with rfl | rfl
    · exact ⟨_, he, fun v q => nomatch q⟩
    · exact ⟨o, ho, fun v q => by rw [hd] at q; cases q⟩
  keep := fun i h h' ⟨⟨old, he⟩, hi, r⟩ k => ⟨⟨old, k e (by simp) _ he⟩, hi.at fun o q => k it (by simp) o q, r⟩
  item := by
    intro X hP hw hK hc i pins s σ H E I hf ⟨⟨old, he⟩, hit, n1, n2, n3⟩ ⟨xs, x, hq, hx⟩
    subst hP hw hK
    obtain ⟨its, rv, p, hz⟩ := I.tuple hq
    obtain ⟨u, hu, ru⟩ := rv.get hx
    have le : e < s.heap.objs.size := Heap.lt_size he
    have lit : it < s.heap.objs.size := by obtain ⟨_, q, _⟩ := hit; exact Heap.lt_size q
    have hi : i < its.toArray.size := by simpa using (List.getElem?_eq_some_iff.mp hu).1
    have D := Draws.tuple (prog := X.prog) (w := X.w) (A := X.A.in1) (by simp [I.ok.hd hc]) it a n3 its.toArray
    refine wpAny_pyNext_enum_itemD D he ⟨hit, p⟩ hi n1 (by simp [n1, Ne.symm n2]) fun u' h' tk hu' ho st' hT hsz hk => ?_
    obtain rfl : u = u' := by
      rw [List.getElem?_toArray, hu] at hu'
      exact Option.some.inj hu'
    refine ⟨_, rfl, wpAny_letOwnedTupleGo_enum (s := { s with heap := h', toks := tk + 1 }) ho fun h2 he2 sb => ?_⟩
    have T2 : h2.get? s.heap.objs.size = some { cls := .type "tuple", data := .seq #[.int i tk, u] } := (sb.2 _ (Nat.ne_of_gt le)).trans hT
    have new : ObjOk X.prog X.w (upd H s.heap.objs.size (.tup [.int (i : Nat), x])) h2 s.heap.objs.size (.tup [.int (i : Nat), x]) :=
      ⟨by show 2 ≤ sizeLine; decide, [.int i tk, u], .cons ⟨_, rfl⟩ (.cons ru .nil), ⟨_, T2, rfl, _, rfl⟩⟩
    have I1 : Inv X pins σ (upd H s.heap.objs.size (.tup [.int (i : Nat), x])) { s with heap := h2, toks := tk + 1 } :=
      I.turnedNew (ch := [e, it]) (fun b ob hb q => (sb.2 b (fun z => hb (by simp [z]))).trans (hk b ob (fun z => hb (by simp [z])) (fun z => hb (by simp [z])) q)) hf (Nat.le_refl _) new
    refine ⟨.ref s.heap.objs.size, _, I1, rfl, ⟨_, x, rfl, I.hok.fresh (Nat.le_refl _), rfl, fun ys hy => by rw [I.tuple_inj hy hq]; exact hx⟩, ⟨⟨u, ?_⟩, st'.1.at fun o q => (sb.2 it (Ne.symm n1)).trans q, n1, n2, n3⟩, fun b hb => ?_⟩
    · rw [show ((i + 1 : Nat) : Int) = (i : Int) + 1 by omega]; exact he2
    · have lb : b < s.heap.objs.size := by
        rcases (show b = e ∨ b = it by simpa using hb) with rfl | rfl
        · exact le
        · exact lit
      rw [upd_ne (Nat.ne_of_lt lb)]
      exact (hf b hb).1
  done := by
    intro X hP hw hK hc i pins s σ H E I hf ⟨⟨old, he⟩, hit, n1, n2, n3⟩ ⟨xs, hq, hx⟩
    subst hP hw hK
    obtain ⟨its, rv, p, hz⟩ := I.tuple hq
    have none_ : its.toArray[i]? = none := by
      have := rv.length
      simp
      omega
    have hh : X.A.in1.handled = none := by simp [I.ok.hd hc]
    have D : Draws X.prog X.w X.A.in1 it [it, a] i (fun _ _ => True) (fun j h => j = i ∧ h.IsTupleIter it a i ∧ h.IsTuple a its.toArray) :=
      ⟨fun _ _ st => let ⟨o, ho, _⟩ := st.2.1; ⟨o, ho⟩, fun _ _ _ st hk => ⟨st.1, st.2.1.at fun o e => hk it (by simp) o e, st.2.2.at fun o e => hk a (by simp) o e⟩,
        fun j s Q E hj st _ => absurd hj (by rw [st.1]; exact Nat.lt_irrefl _), fun s Q E st hE => wpAny_nextOf_tuple_end hh st.2.1 st.2.2 none_ hE⟩
    obtain ⟨f0, f1, f2, f3, f4, f5⟩ := hf it (by simp)
    exact wpAny_pyNext_enum_endD D he ⟨rfl, hit, p⟩ fun h' eb => ⟨rfl, I.turned (t' := s.toks) (fun b o hb q => eb b o hb q) f0 f1 f3 f4 f5⟩
  self := fun A i s Q E ⟨⟨_, he⟩, _⟩ h => wpAny_pyIter_enum he h
def iEnumK (K : PySem.W.Frag) (ta : TA) : TI := fun σ H R => ta σ H fun vs H1 => ∃ a xs, vs = [.ref a] ∧ ((SqL K H1 a xs ∧ R (Ite K a) H1) ∨ (SqT K H1 a xs ∧ R (IteT K a) H1))
theorem pi_enumK {X : Cx} {e : Expr} {ta : TA} {p pos tpos : Pos} {elts : List Expr} {kk : Nat} (hg : Gl X "enumerate") (hm : X.mg "enumerate" = none) (ha : PA X [e] ta) (hs : starEach [e] X.env = [(false, eval e X.env)] := by rfl) :
    PI X (.Tuple elts kk tpos) (.Call (.Name "enumerate" p) [e] [] pos) (iEnumK X.K ta) := by
  refine ⟨fun pins s σ H R I h => ?_⟩
  refine Call_ (ld_blt I hg hm boot_enumerate (PyProof.Rows.callWith_type1 (thn (ha.run pos pins s σ H _ I h) fun us s1 ⟨vs, H1, I1, r1, a, xs, ex, q1⟩ => ?_) hs rfl))
  subst ex
  obtain ⟨u, rfl, ru⟩ := vals1 r1
  obtain rfl : u = Value.ref a := ru
  have fp : ∀ b ∈ [s1.heap.objs.size + 1, s1.heap.objs.size], FpOk X pins H1 b := fun b hb => by
    have le : s1.heap.objs.size ≤ b := by
      rcases (show b = s1.heap.objs.size + 1 ∨ b = s1.heap.objs.size by simpa using hb) with z | z
      · rw [z]; exact Nat.le_add_right _ _
      · rw [z]; exact Nat.le_refl _
    exact I1.fpOk le (I1.hok.fresh le)
  rcases q1 with ⟨hq, q⟩ | ⟨hq, q⟩
  · obtain ⟨its, rv, pl, hz⟩ := I1.list hq
    refine call_enumerate_list pl.isList fun h' he hit hsz hk => wpAny_pyIter_enum he ?_
    have I2 : Inv X pins σ H1 { s1 with heap := h' } := I1.kept (t' := s1.toks) hk
    exact ⟨s1.heap.objs.size + 1, [s1.heap.objs.size + 1, s1.heap.objs.size], _, _, H1, rfl, I2, turn_enum a (s1.heap.objs.size + 1) s1.heap.objs.size, ⟨⟨.none, he⟩, hit, Nat.succ_ne_self _⟩, fp, q⟩
  · obtain ⟨its, rv, pt, hz⟩ := I1.tuple hq
    have la : a < s1.heap.objs.size := by obtain ⟨o, ho, _⟩ := pt; exact Heap.lt_size ho
    refine call_enum1 (begins_tuple a its.toArray) pt fun h' he hit hsz hk => wpAny_pyIter_enum he ?_
    have I2 : Inv X pins σ H1 { s1 with heap := h' } := I1.kept (t' := s1.toks) hk
    exact ⟨s1.heap.objs.size + 1, [s1.heap.objs.size + 1, s1.heap.objs.size], _, _, H1, rfl, I2, turn_enumT a (s1.heap.objs.size + 1) s1.heap.objs.size,
      ⟨⟨.none, he⟩, ⟨_, hit, rfl, rfl⟩, Nat.succ_ne_self _, Nat.ne_of_lt (Nat.lt_succ_of_lt la), Nat.ne_of_lt la⟩, fp, q⟩
section
variable {X : Cx} {T : Gt} {W : WX}
def iEnumA (a : Den) : IDen := fun ε S => (a ε S).bind fun d S => match d with
  | .tup xs => .ok (fun _ => some (numbered 0 xs)) S
  | d => match litems S d with
    | some _ => .ok (fun S => (litems S d).map (numbered 0)) S
    | none => .bad
theorem pid_enumA {e : Expr} {a : Den} {p pos tpos : Pos} {elts : List Expr} {kk : Nat} (hg : Gl X "enumerate") (hm : X.mg "enumerate" = none) (ha : PE X e (tD (gx X T) W a)) (hst : starEach [e] X.env = [(false, eval e X.env)] := by rfl) :
    PI X (.Tuple elts kk tpos) (.Call (.Name "enumerate" p) [e] [] pos) (tIt (gx X T) W (iEnumA a)) :=
  (pi_enumK hg hm (pa_cons ha pa_nil hst) hst).imp fun σ H Q ⟨ε, μ, S, sr, hs, h⟩ => ⟨ε, μ, S, sr, hs, (wR.bind (Rl := rlV (gx X T)) sr h).imp fun v H1 ⟨d, μ1, S1, g1, hs1, sr1, r1, h1⟩ => by
    split at h1
    · rename_i ds
      have r2 : RV X.K μ1 H1 v (.tup ds) := r1
      cases r2 with
      | tup t bt rs =>
        refine ⟨_, _, rfl, .inr ⟨t.sq, wR.here hs1 h1 ?_⟩⟩
        intro i μ' H' S' es g hs' e
        cases e
        have t2 := TupA.monoI g.i t
        have rs2 := RVs.mono g rs
        refine ⟨fun hn => ⟨_, t2.sq, ?_⟩, fun d hd => ?_⟩
        · rw [numbered_at, Option.map_eq_none_iff] at hn
          rw [RVs.length rs2]
          exact List.getElem?_eq_none_iff.mp hn
        · rw [numbered_at] at hd
          obtain ⟨x, hx, rfl⟩ := Option.map_eq_some_iff.mp hd
          obtain ⟨x', hx', rx⟩ := RVs.get rs2 hx
          refine ⟨⟨_, x', t2.sq, hx'⟩, fun z H'' ⟨p, x2, ez, hp, eh, k1⟩ => ?_⟩
          rw [k1 _ t2.sq] at hx'
          cases hx'
          subst ez eh
          have q := pair_new hs' hp (RV.int (K := X.K) (μ := μ') (H := H') (i : Int)) rx rfl
          rw [show (0 + i : Nat) = i by omega]
          exact q
    · split at h1
      · obtain ⟨a, xs, rfl, hq, rs⟩ := litems_of hs1 r1 ‹_›
        refine ⟨a, xs, rfl, .inl ⟨hq, wR.here hs1 h1 ?_⟩⟩
        intro i μ' H' S' ds g hs' e
        obtain ⟨ds0, e0, rfl⟩ := Option.map_eq_some_iff.mp e
        obtain ⟨_, us, e1, q1, rs1⟩ := litems_of hs' (RV.mono g r1) e0
        cases e1
        refine ⟨fun hn => ⟨us, q1, ?_⟩, fun d hd => ?_⟩
        · rw [numbered_at, Option.map_eq_none_iff] at hn
          rw [RVs.length rs1]
          exact List.getElem?_eq_none_iff.mp hn
        · rw [numbered_at] at hd
          obtain ⟨x, hx, rfl⟩ := Option.map_eq_some_iff.mp hd
          obtain ⟨x', hx', rx⟩ := RVs.get rs1 hx
          refine ⟨⟨us, x', q1, hx'⟩, fun z H'' ⟨p, x2, ez, hp, eh, k1⟩ => ?_⟩
          rw [k1 _ q1] at hx'
          cases hx'
          subst ez eh
          have q := pair_new hs' hp (RV.int (K := X.K) (μ := μ') (H := H') (i : Int)) rx rfl
          rw [show (0 + i : Nat) = i by omega]
          exact q
      · exact h1.elim⟩
end
end DL

set_option Elab.async false
set_option linter.all false
set_option maxRecDepth 100000
set_option maxHeartbeats 1000000
namespace DL
open PySem L2
variable {X : Cx} {T : Gt} {W : WX}
def textsOf : D → Option (List Str)
  | .tup ds => fall strD ds
  | _ => none
def firstAt (z : Str) : List Str → Option Nat
  | [] => none
  | y :: r => if y = z then some 0 else (firstAt z r).map (· + 1)
theorem txts_map : ∀ ks : List Str, txts (ks.map D.str) = true
  | [] => rfl
  | _ :: ks => txts_map ks
theorem texts_of {F : PySem.W.Frag} {μ : List Addr} {H : Hp} {v : V} {d : D} {ks : List Str} (r : RV F μ H v d) (e : textsOf d = some ks) : d = unK ks ∧ ∃ p, v = .ref p ∧ SqT F H p (ks.map V.str) ∧ BareA H p (ks.map V.str) := by
  cases d with
  | tup ds =>
    have e' : fall strD ds = some ks := e
    have := fall_strs e'
    subst this
    refine ⟨rfl, ?_⟩
    cases r with
    | tup t b rs =>
      have ex := rs.strs
      subst ex
      exact ⟨_, rfl, t.sq, b (txts_map ks)⟩
  | _ => cases e
end DL

set_option Elab.async false
set_option linter.all false
set_option maxRecDepth 100000
set_option maxHeartbeats 1000000
namespace DL
open PySem L2
open KS (Kd Reads Takes Cmps Ord rise Rising kT kV tLt sLt iLt sortK Up)
section
variable {X : Cx} {T : Gt} {W : WX} {K : Type} [DecidableEq K]
def fSo (key : D → Option K) (lt : K → K → Bool) (kd : K → D) : Fn := fun ds S => match ds with
  | [d] => (match litems S d with
    | some xs => (match fall key xs with
      | some ks => if ks.length < 64 then .ok (.ref S.length) (S ++ [.lst ((sortK lt ks).map kd)]) else .bad
      | none => .bad)
    | none => .bad)
  | _ => .bad
def intKeys : List (Key × D) → Option (List Int)
  | [] => some []
  | (.inl i, _) :: r => (intKeys r).map (i :: ·)
  | _ => none
def fSoD : Fn := fun ds S => match ds with
  | [d] => (match dctAt S d with
    | some (_, kvs) => (match intKeys kvs with
      | some ks => if ks.length < 64 then .ok (.ref S.length) (S ++ [.lst ((sortK iLt ks).map D.int)]) else .bad
      | none => .bad)
    | none => .bad)
  | _ => .bad
def fSorted : Fn := fun ds S => match fSo keyX tLt unK ds S with
  | .bad => (match fSo strD sLt D.str ds S with
    | .bad => (match fSo intD iLt D.int ds S with
      | .bad => fSoD ds S
      | r => r)
    | r => r)
  | r => r
theorem rvs_of2 {F : PySem.W.Frag} {μ : List Addr} {H : Hp} {kd : K → D} : ∀ {M : List (V × K)}, (∀ y ∈ M, RV F μ H y.1 (kd y.2)) → RVs F μ H (M.map (·.1)) ((M.map (·.2)).map kd)
  | [], _ => .nil
  | y :: M, h => .cons (h y List.mem_cons_self) (rvs_of2 fun z m => h z (List.mem_cons_of_mem _ m))
theorem so_to {κ : Kd X.prog X.w K} {kv : Hp → V → K → Prop} {good : K → Prop} {lt : K → K → Bool} {key : D → Option K} {kd : K → D} (O : Ord lt) (hk : ∀ d k, key d = some k → d = kd k) (hgd : ∀ d k, key d = some k → good k) (hkv : ∀ μ H v k, RV X.K μ H v (kd k) → kv H v k)
    (W : WX) (σ : L2.St) (μ : List Addr) (S : Sto) (H : Hp) (vs : List V) (ds : List D) (Q : VK) (hs : HS (gx X T) μ S H) (r : RVs X.K μ H vs ds) (h : wR (gx X T) W (rlV (gx X T)) (fSo key lt kd ds S) σ μ H Q) : KS.rSortL κ kv good lt vs H Q := by
  unfold fSo at h
  split at h
  · split at h
    · rename_i xs hx
      split at h
      · rename_i ks hks
        split at h
        · rename_i few
          obtain ⟨v, rfl, r1⟩ := one_of r
          have eds := fall_kd hk hks
          subst eds
          obtain ⟨l, ys, rfl, hl, rs⟩ := litems_of hs r1 hx
          obtain ⟨zs, e1, e2, rz⟩ := rvs_zip rs
          have lz : zs.length = ks.length := by rw [← e2, List.length_map]
          refine ⟨l, zs, rfl, by rw [e1]; exact hl, by omega, fun z m => ⟨hkv _ _ _ _ (rz z m), ?_⟩, fun M p pm up hp => ?_⟩
          · refine fall_gd hgd hks _ ?_
            rw [← e2]
            exact List.mem_map_of_mem (f := fun z : V × K => z.2) m
          · have ek : sortK lt ks = M.map (·.2) := KS.sortK_is O (by rw [← e2]; exact pm.map _) up
            have rl : RVs X.K μ H (M.map (·.1)) ((sortK lt ks).map kd) := by
              rw [ek]
              exact rvs_of2 fun y m => rz y (pm.mem_iff.mp m)
            exact h _ _ _ (Gr.obj hp) (hs.grow hp ⟨_, upd_same, rl.mono (Gr.obj hp)⟩) (.ref hs.last)
        · exact h.elim
      · exact h.elim
    · exact h.elim
  · exact h.elim
theorem intKeys_of {F : PySem.W.Frag} {μ : List Addr} {H : Hp} : ∀ {xs : List (Key × V)} {kvs : List (Key × D)} {ks : List Int}, RKs F μ H xs kvs → intKeys kvs = some ks → xs.map (·.1) = ks.map Sum.inl
  | _, [], _, .nil, h => by cases h; rfl
  | _, (.inl i, d) :: r, ks, .cons h t, e => by
    unfold intKeys at e
    obtain ⟨js, e1, rfl⟩ := Option.map_eq_some_iff.mp e
    rw [List.map_cons, intKeys_of t e1]
    rfl
  | _, (.inr x, d) :: r, ks, .cons h t, e => by cases e
theorem cd_sorted (hc : X.calm = true) : CallD X T (.builtin "sorted") fSorted := by
  refine ⟨fun vs H Q => KS.rSortL (kT X.prog X.w) (kvT X.K) (· ≠ []) tLt vs H Q ∨ KS.rSortL (kV (PySem.strKind X.prog X.w)) (fun _ x k => x = .str k) (fun _ => True) sLt vs H Q ∨ KS.rSortL (kV (PySem.intKind X.prog X.w)) (fun _ x k => x = .int k) (fun _ => True) iLt vs H Q ∨
    ∃ (a : Addr) (kvs : List (Key × V)) (ks : List Int), vs = [.ref a] ∧ L2.Rd H a (.dK kvs) ∧ kvs.map (·.1) = ks.map Sum.inl ∧ ks.length < 64 ∧ ∀ (ys : List Int) (p : Addr), ys.Perm ks → ys.Pairwise (· ≤ ·) → H p = none → Q (.ref p) (upd H p (.lst (ys.map V.int))), ?_, fun W σ μ S H vs ds Q hs r h => ?_⟩
  · rintro pins s σ H vs us Q I r (h | h | h | h)
    · exact KS.cr_sortL rd_tup KS.cmps_tups KS.ord_tup hc pins s σ H vs us Q I r h
    · exact KS.cr_sortL rd_str KS.cmps_strs KS.ord_str hc pins s σ H vs us Q I r h
    · exact KS.cr_sortL rd_int cmps_ints KS.ord_int hc pins s σ H vs us Q I r h
    · exact call_sortedDI hc pins s σ H vs us Q I r h
  · unfold fSorted at h
    split at h
    · split at h
      · split at h
        · refine .inr (.inr (.inr ?_))
          unfold fSoD at h
          split at h
          · split at h
            · rename_i n kvs hd
              split at h
              · rename_i ks hk
                split at h
                · rename_i few
                  obtain ⟨v, rfl, r1⟩ := one_of r
                  obtain ⟨a, xs, rfl, hm, ha, rs⟩ := dctAt_of hs r1 hd
                  refine ⟨a, xs, ks, rfl, .inl ha, intKeys_of rs hk, few, fun ys p pm up hp => ?_⟩
                  have ek : sortK iLt ks = ys := KS.sortK_is KS.ord_int pm (up.imp fun {a b} h => by unfold iLt; exact decide_eq_false (by omega))
                  have rl : RVs X.K μ H (ys.map V.int) ((sortK iLt ks).map D.int) := by
                    rw [ek]
                    clear up pm ek
                    induction ys with
                    | nil => exact .nil
                    | cons y ys ih => exact .cons (.int _) ih
                  exact h _ _ _ (Gr.obj hp) (hs.grow hp ⟨_, upd_same, rl.mono (Gr.obj hp)⟩) (.ref hs.last)
                · exact h.elim
              · exact h.elim
            · exact h.elim
          · exact h.elim
        · exact .inr (.inr (.inl (so_to KS.ord_int (fun d k h => intD_un h) (fun d k h => trivial) (fun μ H v k r => by cases r; rfl) W σ μ S H vs ds Q hs r h)))
      · exact .inr (.inl (so_to KS.ord_str (fun d k h => strD_un h) (fun d k h => trivial) (fun μ H v k r => by cases r; rfl) W σ μ S H vs ds Q hs r h))
    · exact .inl (so_to KS.ord_tup (fun d k h => (keyX_un h).1) (fun d k h => (keyX_un h).2) (fun μ H v k r => by cases r with | tup t _ rs => exact ⟨_, rfl, by rw [← rs.strs]; exact t.sq⟩) W σ μ S H vs ds Q hs r h)
def dRev (a : Den) : Den := fun ε S => (a ε S).bind fun d S => match litems S d with
  | some xs => .ok (.ref S.length) (S ++ [.lst xs.reverse])
  | none => .bad
theorem rvs_rev {F : PySem.W.Frag} {μ : List Addr} {H : Hp} : ∀ {xs : List V} {ds : List D}, RVs F μ H xs ds → RVs F μ H xs.reverse ds.reverse
  | _, _, .nil => .nil
  | _, _, .cons h t => by
    rw [List.reverse_cons, List.reverse_cons]
    exact (rvs_rev t).append (.cons h .nil)
theorem pd_rev {e : Expr} {a : Den} {k : Nat} {p1 p2 p3 pos : Pos} (ha : PE X e (tD (gx X T) W a)) : PE X (.Subscript e (.Slice none none (some (.UnaryOp .USub (.Constant (.int 1) k p1) p2)) p3) pos) (tD (gx X T) W (dRev a)) :=
  (pe_revL ha).imp fun σ H Q ⟨ε, μ, S, sr, hs, h⟩ => ⟨ε, μ, S, sr, hs, (wR.bind (Rl := rlV (gx X T)) sr h).imp fun v H1 ⟨d, μ1, S1, g1, hs1, sr1, r1, h1⟩ => by
    split at h1
    · rename_i xs hx
      obtain ⟨l, ys, rfl, hl, rs⟩ := litems_of hs1 r1 hx
      exact ⟨l, ys, rfl, hl, fun p hp => h1 _ _ _ (Gr.obj hp) (hs1.grow hp ⟨_, upd_same, (rvs_rev rs).mono (Gr.obj hp)⟩) (.ref hs1.last)⟩
    · exact h1.elim⟩
end
end DL

set_option Elab.async false
set_option linter.all false
set_option maxRecDepth 100000
set_option maxHeartbeats 1000000
namespace DL
open PySem PySem.Spec PyProof.Rows L2
section
end
end DL

set_option Elab.async false
set_option linter.all false
set_option maxRecDepth 100000
set_option maxHeartbeats 1000000
namespace DL.KS
open PySem PySem.Spec PyProof.Rows L2
section
end
end DL.KS

set_option Elab.async false
set_option linter.all false
set_option maxRecDepth 100000
set_option maxHeartbeats 1000000
namespace DL
open PySem PySem.Spec PyProof.Rows L2
open PySem.W (maxOf DatumOrd max_list_datum_default int_of_holds HoldAll)
section
end
end DL

set_option Elab.async false
set_option linter.all false
set_option maxRecDepth 100000
set_option maxHeartbeats 1000000
namespace DL
open PySem L2 PyProof.Rows
section
end
end DL

set_option Elab.async false
set_option linter.all false
set_option maxRecDepth 100000
set_option maxHeartbeats 2000000
namespace DL
open PySem PySem.Spec PyProof.Rows L2
section
end
section
end
section
variable {X : Cx} {T : Gt} {W : WX}
def lcX (src : Src) (g : GDen) (e : Den) (vs : List Nat) (ε : Env) : Nat → Nat → List D → Sto → R (List D)
  | 0, _, _, _ => .bad
  | m + 1, i, acc, S => match src S with
    | none => .bad
    | some ds => match ds[i]? with
      | none => .ok acc S
      | some d => match g d (wipeE ε vs) S with
        | none => .bad
        | some ε1 => (e ε1 S).bind fun x S => if acc.length < big then lcX src g e vs ε m (i + 1) (acc ++ [x]) S else .bad
def dLcX (it : IDen) (g : GDen) (e : Den) (vs : List Nat) : Den := fun ε S => (it ε S).bind fun src S => match src S with
  | some ds => (lcX src g e vs ε (ds.length + 1) 0 [] S).bind lcEnd
  | none => .bad
end
end DL

set_option Elab.async false
set_option linter.all false
set_option maxRecDepth 100000
set_option maxHeartbeats 1000000
namespace DL
open PySem L2
open KS (sLt)
theorem listLt_t : ∀ a b : List Str, PySem.W.listLt a b = KS.tLt a b
  | [], [] => rfl
  | [], _ :: _ => rfl
  | _ :: _, [] => rfl
  | x :: xs, y :: ys => by
    rw [PySem.W.listLt, KS.tLt, listLt_t xs ys]
    rfl
section
variable {X : Cx} {T : Gt} {W : WX}
theorem hold_texts {h : Heap} {ks : List Str} : ∀ {vs : List Value}, Vals (ks.map V.str) vs → PySem.W.HoldAll h vs ks := by
  induction ks with
  | nil => intro vs r; cases r; exact PySem.W.HoldAll.nil
  | cons k ks ih =>
    intro vs r
    rw [List.map_cons] at r
    cases r with
    | cons r1 r2 =>
      obtain ⟨t, e⟩ := r1
      subst e
      exact PySem.W.HoldAll.cons (PySem.W.holds_str k t) (ih r2)
def rLtM (K : PySem.W.Frag) : R2 := fun x y H Q => ∃ a b ks js, x = .ref a ∧ y = .ref b ∧ SqT K H a (ks.map V.str) ∧ SqT K H b (js.map V.str) ∧ Q (.bl (KS.tLt ks js)) H
theorem op_ltM (hu : X.A.units + 65 < cLine) : OpR X (compareOp .Lt) (rLtM X.K) := by
  intro pins s σ H x y v u Q I rx ry h
  obtain ⟨a, b, ks, js, rfl, rfl, ha, hb, q⟩ := h
  cases rx
  cases ry
  obtain ⟨its, r1, p1, _⟩ := I.tuple ha
  obtain ⟨its2, r2, p2, _⟩ := I.tuple hb
  have h1 : PySem.W.Holds s.heap (.ref a) (PySem.W.Tup.mk ks) := PySem.W.holds_tup p1 (hold_texts r1)
  have h2 : PySem.W.Holds s.heap (.ref b) (PySem.W.Tup.mk js) := PySem.W.holds_tup p2 (hold_texts r2)
  refine PySem.W.lt_datum h1 h2 (Nat.lt_of_le_of_lt (Nat.add_le_add_left (show PySem.W.Datum.depth (PySem.W.Tup Str) ≤ 65 from by decide) _) hu) ⟨.bl (KS.tLt ks js), H, I, ?_, q⟩
  show _ = _
  exact congrArg Value.bool (listLt_t ks js)
def oLtM : Op := fun d e S => match textsOf d, textsOf e with
  | some ks, some js => .ok (.bl (KS.tLt ks js)) S
  | _, _ => .bad
theorem od_ltM (hu : X.A.units + 65 < cLine) : OpD X T (compareOp .Lt) oLtM := by
  refine ⟨_, op_ltM hu, fun W σ μ S H x y d e Q hs rx ry h => ?_⟩
  unfold oLtM at h
  split at h
  · rename_i ks js e1 e2
    obtain ⟨_, a, rfl, sa, _⟩ := texts_of rx e1
    obtain ⟨_, b, rfl, sb, _⟩ := texts_of ry e2
    exact ⟨a, b, ks, js, rfl, rfl, sa, sb, wR.here hs h (.bl _)⟩
  · exact h.elim
end
end DL

set_option Elab.async false
set_option linter.all false
set_option maxRecDepth 100000
set_option maxHeartbeats 1000000
namespace DL
open PySem PySem.Spec PyProof.Rows L2
section
variable {prog : Program} {w : World} {A : Around} {E : Value → Shared → Prop} {s : Shared}
theorem adjust_rev (n : Nat) : Builtin.Slice.sliceAdjust none none (-1) (n : Int) = ((n : Int) - 1, -1) := by
  unfold Builtin.Slice.sliceAdjust
  have h : ((-1 : Int) < 0) := by omega
  simp only [h, if_true]
theorem places_rev (n : Nat) : Builtin.Slice.slicePlaces ((n : Int) - 1) (-1) (-1) = n := by
  unfold Builtin.Slice.slicePlaces
  have h1 : ¬ ((-1 : Int) > 0) := by omega
  simp only [h1, if_false]
  have e : (- (-1) : Int) = 1 := by omega
  simp only [e, Int.ediv_one]
  split <;> omega
theorem sliceApplied_rev {sl : Addr} {t : Tok} {n : Nat} {Q : Int × Int × Nat → Shared → Prop} (hs : s.heap.IsSliceOf sl .none .none (.int (-1) t))
    (h : Q ((n : Int) - 1, -1, n) s) : wpAny (model prog w) A (Builtin.Slice.sliceApplied (.ref sl) (pure (n : Int))) Q E s := by
  obtain ⟨os, hos, hcs, hds⟩ := id hs
  unfold Builtin.Slice.sliceApplied Builtin.Slice.sliceFields
  refine wpAny_bind (wpAny_bind (wpAny_field hos hds (x := .none) rfl (wpAny_bind (wpAny_field hos hds (x := .none) rfl (wpAny_bind (wpAny_field hos hds (x := .int (-1) t) rfl (wpAny_pure ?_)))))))
  refine wpAny_bind (slicePart_int ?_)
  show wpAny _ _ (if ((-1 : Int) == 0) = true then _ else _) _ _ s
  rw [if_neg (by decide)]
  refine wpAny_bind (slicePart_none (wpAny_bind (slicePart_none (wpAny_bind (wpAny_pure ?_)))))
  show wpAny _ _ (match Builtin.Slice.sliceAdjust none none (-1) (n : Int) with | (lo, hi) => pure (lo, (-1 : Int), Builtin.Slice.slicePlaces lo hi (-1))) _ _ s
  rw [adjust_rev n]
  show wpAny _ _ (pure ((n : Int) - 1, (-1 : Int), Builtin.Slice.slicePlaces ((n : Int) - 1) (-1) (-1))) _ _ s
  rw [places_rev]
  exact wpAny_pure h
theorem fm_congr {α β : Type} {f g : α → Option β} : ∀ {l : List α}, (∀ a ∈ l, f a = g a) → l.filterMap f = l.filterMap g
  | [], _ => rfl
  | a :: l, h => by rw [List.filterMap_cons, List.filterMap_cons, h a List.mem_cons_self, fm_congr fun b hb => h b (List.mem_cons_of_mem _ hb)]
theorem pick_rev (xs : List Value) : ((List.range xs.length).filterMap fun (m : Nat) => xs.toArray[((xs.length : Int) - 1 + (m : Int) * (-1)).toNat]?) = xs.reverse := by
  have e : (List.range xs.length).filterMap (fun (m : Nat) => xs.toArray[((xs.length : Int) - 1 + (m : Int) * (-1)).toNat]?) = (List.range xs.length).filterMap fun (m : Nat) => xs.reverse[m]? := by
    refine fm_congr fun m hm => ?_
    have := List.mem_range.mp hm
    rw [List.getElem?_toArray, List.getElem?_reverse this]
    congr 1
    omega
  rw [e]
  have e2 : (List.range xs.length).filterMap (fun (m : Nat) => xs.reverse[m]?) = xs.reverse := by
    rw [← List.length_reverse]
    generalize xs.reverse = ys
    induction ys with
    | nil => rfl
    | cons y ys ih =>
      rw [List.length_cons, List.range_succ_eq_map, List.filterMap_cons, List.filterMap_map]
      simp only [List.getElem?_cons_zero]
      congr 1
  rw [e2]
theorem getItem_tuple_rev {t sl : Addr} {items : List Value} {k : Tok} {Q : Value → Shared → Prop} (ht : IsTup s.heap t items.toArray) (hs : s.heap.IsSliceOf sl .none .none (.int (-1) k))
    (h : Q (.ref s.heap.objs.size) { s with heap := s.heap.push (tupO items.reverse.toArray) })
    (hsz : items.length ≤ sizeLine) : wpAny (model prog w) A (getItem (.ref t) (.ref sl)) Q E s := by
  have htake : sizeOk (.seq items.reverse.toArray) := by
    show items.reverse.toArray.size ≤ sizeLine
    simpa using hsz
  obtain ⟨os, hos, hcs, hds⟩ := id hs
  have hTs : s.TypeIs (.ref sl) "slice" := ⟨os, hos, hcs⟩
  unfold getItem
  try with_reducible refine wpAny_holding ?_
  first | refine wpAny_bind (wpAny_pure ?_) | skip
  refine wpAny_bind (wpAny_sequenceKey ht.typeIs (by decide) ?_)
  refine wpAny_bind (wpAny_callSpecial?_slot (name := Str.ofString "__getitem__") ht.typeIs PyProof.Rows.slot_tuple_getitem
    (wpAny_call_entry PyProof.Rows.slot_tuple_getitem ht.typeIs entry_tuple_getitem ?_ (args_tuple_getitem _ _)))
  show wpAny _ _ (Builtin.Tuple.tupleItemsOf (.ref t) >>= _) _ _ s
  refine wpAny_bind (tupleItemsOf_ ht ?_)
  refine wpAny_bind (wpAny_typeOf hTs ?_)
  rw [if_pos (by decide)]
  rw [show ((items.toArray.size : Nat) : Int) = ((items.length : Nat) : Int) by simp]
  refine wpAny_bind (sliceApplied_rev hs ?_)
  have hno : ¬ ((((items.length : Int) - 1) == 0 && (-1 : Int) == 1 && items.length == items.toArray.size) = true) := by
    intro q
    rw [Bool.and_eq_true, Bool.and_eq_true] at q
    exact absurd q.1.2 (by decide)
  show wpAny _ _ (if (((items.length : Int) - 1) == 0 && (-1 : Int) == 1 && items.length == items.toArray.size) = true then _ else _) _ _ s
  rw [if_neg hno]
  rw [pick_rev items]
  first
    | exact wpAny_bind (m := Builtin.Tuple.tupleExact _) (wpAny_newObj_type (wpAny_pure ⟨_, rfl, wpAny_pure h⟩) htake)
    | exact wpAny_bind (m := Builtin.Tuple.tupleExact _) (wpAny_newObj_type (wpAny_bind (wpAny_pure (wpAny_pure ⟨_, rfl, wpAny_pure h⟩))) htake)
    | exact wpAny_bind (wpAny_bind (m := Builtin.Tuple.tupleExact _) (wpAny_newObj_type (wpAny_pure (wpAny_pure ⟨_, rfl, wpAny_pure h⟩)) htake))
    | exact wpAny_bind (wpAny_bind (m := Builtin.Tuple.tupleExact _) (wpAny_newObj_type (wpAny_pure ⟨_, rfl, wpAny_pure h⟩) htake))
def tRevT (K : PySem.W.Frag) (te : TE) : TE := fun σ H Q => te σ H fun x H1 => ∃ a xs, x = .ref a ∧ SqT K H1 a xs ∧ NewT H1 xs.reverse Q
theorem pe_revT {X : Cx} {e : Expr} {te : TE} {k : Nat} {p1 p2 p3 pos : Pos} (he : PE X e te) : PE X (.Subscript e (.Slice none none (some (.UnaryOp .USub (.Constant (.int 1) k p1) p2)) p3) pos) (tRevT X.K te) := by
  refine ⟨fun pins s σ H Q I h => ?_⟩
  refine Subscript_ (thn (he.run pins s σ H _ I h) fun v s1 ⟨x, H1, I1, r1, q1⟩ => ?_)
  obtain ⟨a, xs, ex, hx, q⟩ := q1
  subst ex
  cases r1
  have hst : PO X (some (.UnaryOp .USub (.Constant (.int 1) k p1) p2)) (tPart (tUn (rU fun i => .int (-i)) (tC (.int 1)))) := po_some (pe_un un_neg pe_int)
  refine wpAny_Slice (thn (po_none.run pins s1 σ H1 (fun o H2 => o = none ∧ H2 = H1) I1 ⟨rfl, rfl⟩) fun vl s2 ⟨l, H2, I2, pl, el, e2⟩ => ?_)
  subst el e2
  refine thn (po_none.run pins s2 σ H2 (fun o H3 => o = none ∧ H3 = H2) I2 ⟨rfl, rfl⟩) fun vu s3 ⟨u, H3, I3, pu, eu, e3⟩ => ?_
  subst eu e3
  refine thn (hst.run pins s3 σ H3 (fun o H4 => o = some (-1) ∧ H4 = H3) I3 ⟨1, rfl, -1, rfl, rfl, rfl⟩) fun vs s4 ⟨o, H4, I4, ps, eo, e4⟩ => ?_
  subst eo e4
  cases pl
  cases pu
  cases ps with
  | int _ t =>
  have I5 : Inv X pins σ H4 { s4 with heap := s4.heap.push { cls := .type "slice", data := .fields #[.none, .none, .int (-1) t] } } := I4.kept (t' := s4.toks) fun b ob q => Heap.get?_push_of_some _ q
  obtain ⟨its, r, ht, hz⟩ := I5.tuple hx
  have hlen := r.length
  show wpAny (model X.prog X.w) X.A (subscriptTail e (.Slice none none (some (.UnaryOp .USub (.Constant (.int 1) k p1) p2)) p3) (.ref a) (.ref s4.heap.objs.size)) (EP X pins σ Q) X.xe { s4 with heap := s4.heap.push { cls := .type "slice", data := .fields #[.none, .none, .int (-1) t] } }
  refine tail_any (ops := [.ref a, .ref s4.heap.objs.size]) ht.typeIs (PyProof.Rows.slot_tuple_getitem.lookup) ?_ (by with_unfolding_all rfl)
  refine getItem_tuple_rev ht (Heap.IsSliceOf.new _ .none .none (.int (-1) t)) ?_ (by omega)
  exact new_tupO (t' := s4.toks) I5 r.reverse (by rw [List.length_reverse]; exact hz) q
def dRevT (a : Den) : Den := fun ε S => (a ε S).bind fun d S => match d with
  | .tup ds => .ok (.tup ds.reverse) S
  | _ => .bad
theorem pd_revT {X : Cx} {T : Gt} {W : WX} {e : Expr} {a : Den} {k : Nat} {p1 p2 p3 pos : Pos} (ha : PE X e (tD (gx X T) W a)) : PE X (.Subscript e (.Slice none none (some (.UnaryOp .USub (.Constant (.int 1) k p1) p2)) p3) pos) (tD (gx X T) W (dRevT a)) :=
  (pe_revT ha).imp fun σ H Q ⟨ε, μ, S, sr, hs, h⟩ => ⟨ε, μ, S, sr, hs, (wR.bind (Rl := rlV (gx X T)) sr h).imp fun v H1 ⟨d, μ1, S1, g1, hs1, sr1, r1, h1⟩ => by
    have r1 : RV X.K μ1 H1 v d := r1
    split at h1
    · cases r1 with
      | tup t _ rs => exact ⟨_, _, rfl, t.sq, newT_of hs1 (rvs_rev rs) h1⟩
    · exact h1.elim⟩
end
end DL

set_option Elab.async false
set_option linter.all false
set_option maxRecDepth 100000
set_option maxHeartbeats 1000000
namespace DL
open PySem PySem.Spec PyProof.Rows L2
section
end
section
end
end DL

set_option Elab.async false
set_option linter.all false
set_option maxRecDepth 100000
set_option maxHeartbeats 1000000
namespace DL
open PySem PySem.Spec PyProof.Rows L2
section
end
section
end
end DL

set_option Elab.async false
set_option linter.all false
namespace DL
open PySem L2 DL
inductive CF where
  | f_is_word
  | f__law_cell
  | f__law_drawn
  | f__law_odd
  | f__law_spoilt
  | m_Run_touch
  | m_Run_worth
  | m_Run_at_shelf
  | m_Run_with_names
  | m_Run_put_together
  | m_World_touched
  | f_once
  | f_is_mark
  | f_is_kind
  | f_is_less
  | f_joined
  | f_both_of
  | f__law_is_mark
  | f__law_is_kind
  | f__law_kind
def b_f_is_word (c c2 : CF → Fn) : SDen :=
    (sSeq (sIf (bOr (bNot (dTest (dIsi "str" (dVar 0)))) (bOr (bNot (dTest (dChain oLe oLe (dC (.int 1)) (dFn fLen (dCons (dVar 0) dNil)) (dC (.int 4))))) (dTest (dBin oNotIn (dBin oGet (dVar 0) (dC (.int 0))) (dVar 1))))) (sRet (dC (.bl false))) sNil)
    (sRet (dFn fAll (dCons (dLc (iAny (dSl (dVar 0) (dPart (dC (.int 1))) dNoPart)) (gN 2) bYes (dBin oIn (dVar 2) (dC (.str "0123456789"))) [2]) dNil))))
def b_f__law_cell (c c2 : CF → Fn) : SDen :=
    (sSeq (sIf (dTest (dBin oEq (dVar 0) (dLst dNil))) (sRet (dBin oMul (dC (.int 7)) (dVar 1))) sNil)
    (sRet (dBin oAdd (dBin oGet (dVar 0) (dBin oMod (dVar 1) (dFn fLen (dCons (dVar 0) dNil)))) (dBin oMul (dC (.int 6553)) (dBin oDiv (dVar 1) (dFn fLen (dCons (dVar 0) dNil)))))))
def b_f__law_drawn (c c2 : CF → Fn) : SDen :=
    (sSeq (sAsg (dBin oMod (dBin oAdd (dBin oMul (dBin oMod (dCall 2 (c .f__law_cell) (dCons (dVar 0) (dCons (dVar 1) dNil))) (dC (.int 2147483563))) (dC (.int 69069))) (dBin oMul (dC (.int 104723)) (dBin oAdd (dVar 1) (dC (.int 1))))) (dC (.int 2147483563))) (gN 3))
    (sSeq (sAsg (dBin oMod (dBin oAdd (dBin oMul (dVar 3) (dVar 3)) (dBin oDiv (dVar 3) (dC (.int 3)))) (dC (.int 2147483399))) (gN 3))
    (sRet (dBin oMod (dBin oDiv (dBin oMod (dBin oAdd (dBin oMul (dVar 3) (dVar 3)) (dBin oDiv (dVar 3) (dC (.int 7)))) (dC (.int 2147483647))) (dC (.int 11))) (dVar 2)))))
def b_f__law_odd (c c2 : CF → Fn) : SDen :=
    (sSeq (sAsg (dLst (dCons (dNeg (dC (.int 1))) (dCons (dC (.int 0)) (dCons (dC (.int 1)) (dCons (dC (.int 1008)) (dCons (dC (.int 1009)) (dCons (dC (.bl true)) (dCons (dC .non) (dCons (dC (.str "")) (dCons (dC (.str "a")) (dCons (dC (.str "x")) (dCons (dC (.str "p")) (dCons (dC (.str "f")) (dCons (dC (.str "x1")) (dCons (dC (.str "x1234")) (dCons (dC (.str "read")) (dCons (dTup dNil) (dCons (dLst dNil) (dCons (dTup (dCons (dC (.str "ask")) dNil)) dNil))))))))))))))))))) (gN 1))
    (sSeq (sAsg (dBin oAdd (dVar 1) (dLst (dCons (dTup (dCons (dC (.str "name")) (dCons (dC (.str "x")) dNil))) (dCons (dTup (dCons (dC (.str "read")) (dCons (dC (.str "a")) dNil))) (dCons (dTup (dCons (dC (.str "do")) (dCons (dC (.str "f")) dNil))) (dCons (dTup (dCons (dC (.str "call")) (dCons (dC (.int 0)) (dCons (dTup dNil) (dCons (dTup dNil) dNil))))) (dCons (dTup (dCons (dC (.str "number")) (dCons (dC (.bl true)) dNil))) (dCons (dTup (dCons (dC (.str "ask")) (dCons (dC (.int 1)) dNil))) (dCons (dC (.int 2)) dNil))))))))) (gN 1))
    (sSeq (sExpr (dAppend (dVar 1) (dTup (dCons (dC (.str "number")) (dCons (dC (.int 0)) dNil)))))
    (sRet (dBin oGet (dVar 1) (dBin oMod (dVar 0) (dC (.int 26))))))))
def b_f__law_spoilt (c c2 : CF → Fn) : SDen :=
    (sSeq (sIf (bAnd (dTest (dBin oGt (dVar 2) (dC (.int 0)))) (bAnd (dTest (dIsi "tuple" (dVar 0))) (bAnd (dTest (dBin oGt (dFn fLen (dCons (dVar 0) dNil)) (dC (.int 0)))) (dTest (dBin oGt (dBin oMod (dVar 1) (dC (.int 7))) (dC (.int 0))))))) (sSeq (sAsg (dBin oMod (dBin oDiv (dVar 1) (dC (.int 7))) (dFn fLen (dCons (dVar 0) dNil))) (gN 3))
    (sSeq (sAsg (dCall 3 (c .f__law_spoilt) (dCons (dBin oGet (dVar 0) (dVar 3)) (dCons (dBin oDiv (dVar 1) (dC (.int 91))) (dCons (dBin oSub (dVar 2) (dC (.int 1))) dNil)))) (gN 4))
    (sRet (dBin oAdd (dBin oAdd (dSl (dVar 0) dNoPart (dPart (dVar 3))) (dTup (dCons (dVar 4) dNil))) (dSl (dVar 0) (dPart (dBin oAdd (dVar 3) (dC (.int 1)))) dNoPart))))) sNil)
    (sSeq (sIf (bAnd (dTest (dIsi "tuple" (dVar 0))) (bAnd (dTest (dBin oGt (dFn fLen (dCons (dVar 0) dNil)) (dC (.int 0)))) (dTest (dBin oEq (dBin oMod (dBin oDiv (dVar 1) (dC (.int 7))) (dC (.int 2))) (dC (.int 0)))))) (sRet (dBin oGet (dLst (dCons (dFn fList (dCons (dVar 0) dNil)) (dCons (dSl (dVar 0) dNoPart (dPart (dNeg (dC (.int 1))))) (dCons (dBin oAdd (dVar 0) (dSl (dVar 0) (dPart (dNeg (dC (.int 1)))) dNoPart)) (dCons (dSl (dVar 0) (dPart (dC (.int 1))) dNoPart) (dCons (dRevT (dVar 0)) (dCons (dBin oMul (dVar 0) (dC (.int 2))) dNil))))))) (dBin oMod (dBin oDiv (dVar 1) (dC (.int 14))) (dC (.int 6))))) sNil)
    (sSeq (sIf (bAnd (dTest (dIsi "int" (dVar 0))) (dTest (dBin oEq (dBin oMod (dBin oDiv (dVar 1) (dC (.int 7))) (dC (.int 2))) (dC (.int 0))))) (sRet (dBin oGet (dLst (dCons (dFn fStrI (dCons (dVar 0) dNil)) (dCons (dBin oSub (dC (.int 0)) (dVar 0)) (dCons (dBin oAdd (dVar 0) (dC (.int 1))) (dCons (dBin oEq (dVar 0) (dC (.int 1))) (dCons (dBin oSub (dVar 0) (dC (.int 1))) (dCons (dBin oAdd (dVar 0) (dC (.int 9))) dNil))))))) (dBin oMod (dBin oDiv (dVar 1) (dC (.int 14))) (dC (.int 6))))) sNil)
    (sRet (dCall 1 (c .f__law_odd) (dCons (dBin oDiv (dVar 1) (dC (.int 7))) dNil))))))
def b_m_Run_touch (c c2 : CF → Fn) : SDen :=
    (sSeq (sIf (dTest (dBin oNotN (dFld "world" (dVar 0)) (dC .non))) (sRet (dMeth "World" "touched" 2 (c .m_World_touched) (dFld "world" (dVar 0)) (dCons (dVar 1) dNil))) sNil)
    (sSeq (sIf (dTest (dBin oEq (dFld "place" (dVar 0)) (dFn fLen (dCons (dFld "answers" (dVar 0)) dNil)))) (sSeq (sFldD "wanted" (dVar 1) (dVar 0))
    (sRaise "Pause")) sNil)
    (sSeq (sFldD "place" (dBin oAdd (dFld "place" (dVar 0)) (dC (.int 1))) (dVar 0))
    (sRet (dBin oGet (dFld "answers" (dVar 0)) (dBin oSub (dFld "place" (dVar 0)) (dC (.int 1))))))))
def b_m_Run_worth (c c2 : CF → Fn) : SDen :=
    (sSeq (sAsg (dBin oGet (dVar 1) (dC (.int 0))) (gN 3))
    (sSeq (sIf (dTest (dBin oEq (dVar 3) (dC (.str "number")))) (sRet (dBin oGet (dVar 1) (dC (.int 1)))) sNil)
    (sSeq (sIf (dTest (dBin oEq (dVar 3) (dC (.str "name")))) (sRet (dBin oGet (dVar 2) (dBin oGet (dVar 1) (dC (.int 1))))) sNil)
    (sSeq (sIf (dTest (dBin oIn (dVar 3) (dTup (dCons (dC (.str "read")) (dCons (dC (.str "write")) dNil))))) (sRet (dMeth "Run" "at_shelf" 3 (c .m_Run_at_shelf) (dVar 0) (dCons (dVar 1) (dCons (dVar 2) dNil)))) sNil)
    (sSeq (sIf (dTest (dBin oEq (dVar 3) (dC (.str "ask")))) (sRet (dMeth "Run" "touch" 2 (c .m_Run_touch) (dVar 0) (dCons (dTup (dCons (dC (.str "ask")) dNil)) dNil))) sNil)
    (sSeq (sIf (dTest (dBin oEq (dVar 3) (dC (.str "say")))) (sRet (dMeth "Run" "touch" 2 (c .m_Run_touch) (dVar 0) (dCons (dTup (dCons (dC (.str "say")) (dCons (dMeth "Run" "worth" 3 (c .m_Run_worth) (dVar 0) (dCons (dBin oGet (dVar 1) (dC (.int 1))) (dCons (dVar 2) dNil))) dNil))) dNil))) sNil)
    (sSeq (sIf (dTest (dBin oEq (dVar 3) (dC (.str "do")))) (sSeq (sAsg (dBin oGet (dVar 2) (dBin oGet (dVar 1) (dC (.int 1)))) (gT 2 (gsCons (gN 4) (gsCons (gN 5) gsNil))))
    (sRet (dMeth "Run" "worth" 3 (c .m_Run_worth) (dVar 0) (dCons (dVar 4) (dCons (dVar 5) dNil))))) sNil)
    (sSeq (sIf (dTest (dBin oIn (dVar 3) (dTup (dCons (dC (.str "call")) (dCons (dC (.str "let")) (dCons (dC (.str "own")) dNil)))))) (sRet (dMeth "Run" "with_names" 3 (c .m_Run_with_names) (dVar 0) (dCons (dVar 1) (dCons (dVar 2) dNil)))) sNil)
    (sRet (dMeth "Run" "put_together" 3 (c .m_Run_put_together) (dVar 0) (dCons (dVar 1) (dCons (dVar 2) dNil))))))))))))
def b_m_Run_at_shelf (c c2 : CF → Fn) : SDen :=
    (sSeq (sAsg (dGet2 (dVar 2) (dBin oGet (dVar 1) (dC (.int 1))) (dBin oGet (dVar 1) (dC (.int 1)))) (gN 3))
    (sSeq (sIf (dTest (dBin oEq (dBin oGet (dVar 1) (dC (.int 0))) (dC (.str "read")))) (sRet (dIf (dTest (dIsi "str" (dVar 3))) (dMeth "Run" "touch" 2 (c .m_Run_touch) (dVar 0) (dCons (dTup (dCons (dC (.str "read")) (dCons (dVar 3) dNil))) dNil)) (dBin oGet (dFld "cells" (dVar 0)) (dVar 3)))) sNil)
    (sSeq (sAsg (dMeth "Run" "worth" 3 (c .m_Run_worth) (dVar 0) (dCons (dBin oGet (dVar 1) (dC (.int 2))) (dCons (dVar 2) dNil))) (gN 4))
    (sSeq (sIf (dTest (dIsi "str" (dVar 3))) (sRet (dMeth "Run" "touch" 2 (c .m_Run_touch) (dVar 0) (dCons (dTup (dCons (dC (.str "write")) (dCons (dVar 3) (dCons (dVar 4) dNil)))) dNil))) sNil)
    (sSeq (sPut (dFld "cells" (dVar 0)) (dVar 3) (dVar 4))
    (sRet (dVar 4)))))))
def b_m_Run_with_names (c c2 : CF → Fn) : SDen :=
    (sSeq (sIf (dTest (dBin oEq (dBin oGet (dVar 1) (dC (.int 0))) (dC (.str "call")))) (sSeq (sAsg (dBin oGet (dFld "rules" (dVar 0)) (dBin oGet (dVar 1) (dC (.int 1)))) (gT 3 (gsCons (gN 3) (gsCons (gN 4) (gsCons (gN 5) gsNil)))))
    (sSeq (sAsg (dFn fDict (dCons (dLcX (iZipD (dVar 3) (dBin oGet (dVar 1) (dC (.int 2)))) (gT 2 (gsCons (gN 8) (gsCons (gN 9) gsNil))) (dTup (dCons (dVar 8) (dCons (dMeth "Run" "worth" 3 (c .m_Run_worth) (dVar 0) (dCons (dVar 9) (dCons (dVar 2) dNil))) dNil))) [8, 9]) dNil)) (gN 6))
    (sSeq (sExpr (dUpd (dVar 6) (dFn fDict (dCons (dLc (iZipD (dVar 4) (dBin oGet (dVar 1) (dC (.int 3)))) (gT 2 (gsCons (gN 8) (gsCons (gN 9) gsNil))) bYes (dTup (dCons (dVar 8) (dCons (dTup (dCons (dVar 9) (dCons (dVar 2) dNil))) dNil))) [8, 9]) dNil))))
    (sRet (dMeth "Run" "worth" 3 (c .m_Run_worth) (dVar 0) (dCons (dVar 5) (dCons (dVar 6) dNil))))))) sNil)
    (sSeq (sAsg (dMeth "Run" "worth" 3 (c .m_Run_worth) (dVar 0) (dCons (dBin oGet (dVar 1) (dC (.int 2))) (dCons (dVar 2) dNil))) (gN 7))
    (sSeq (sAsg (dFn fDict (dCons (dVar 2) dNil)) (gN 6))
    (sSeq (sPut (dVar 6) (dBin oGet (dVar 1) (dC (.int 1))) (dVar 7))
    (sSeq (sIf (dTest (dBin oEq (dBin oGet (dVar 1) (dC (.int 0))) (dC (.str "own")))) (sSeq (sExpr (dAppend (dFld "cells" (dVar 0)) (dVar 7)))
    (sPut (dVar 6) (dBin oGet (dVar 1) (dC (.int 1))) (dBin oSub (dFn fLen (dCons (dFld "cells" (dVar 0)) dNil)) (dC (.int 1))))) sNil)
    (sRet (dMeth "Run" "worth" 3 (c .m_Run_worth) (dVar 0) (dCons (dBin oGet (dVar 1) (dC (.int 3))) (dCons (dVar 6) dNil)))))))))
def b_m_Run_put_together (c c2 : CF → Fn) : SDen :=
    (sSeq (sAsg (dBin oGet (dVar 1) (dC (.int 0))) (gN 3))
    (sSeq (sAsg (dMeth "Run" "worth" 3 (c .m_Run_worth) (dVar 0) (dCons (dBin oGet (dVar 1) (dC (.int 1))) (dCons (dVar 2) dNil))) (gN 4))
    (sSeq (sIf (dTest (dBin oEq (dVar 3) (dC (.str "if")))) (sRet (dMeth "Run" "worth" 3 (c .m_Run_worth) (dVar 0) (dCons (dIf (dTest (dBin oNe (dVar 4) (dC (.int 0)))) (dBin oGet (dVar 1) (dC (.int 2))) (dBin oGet (dVar 1) (dC (.int 3)))) (dCons (dVar 2) dNil)))) sNil)
    (sSeq (sIf (dTest (dBin oEq (dVar 3) (dC (.str "loop")))) (sSeq (sFor (iRange1 (dBin oMod (dVar 4) (dC (.int 4)))) (gN 5) (sExpr (dMeth "Run" "worth" 3 (c .m_Run_worth) (dVar 0) (dCons (dBin oGet (dVar 1) (dC (.int 2))) (dCons (dVar 2) dNil)))))
    (sRet (dC (.int 0)))) sNil)
    (sSeq (sAsg (dMeth "Run" "worth" 3 (c .m_Run_worth) (dVar 0) (dCons (dBin oGet (dVar 1) (dC (.int 2))) (dCons (dVar 2) dNil))) (gN 6))
    (sSeq (sIf (dTest (dBin oEq (dVar 3) (dC (.str "then")))) (sRet (dVar 6)) sNil)
    (sRet (dIf (dTest (dBin oEq (dVar 3) (dC (.str "add")))) (dBin oMod (dBin oAdd (dVar 4) (dVar 6)) (dC (.int 1009))) (dFn fInt (dCons (dBin oLt (dVar 4) (dVar 6)) dNil))))))))))
def b_m_World_touched (c c2 : CF → Fn) : SDen :=
    (sSeq (sIf (dTest (dBin oEq (dBin oGet (dVar 1) (dC (.int 0))) (dC (.str "ask")))) (sSeq (sAsg (dIf (dTest (dBin oLt (dFld "many" (dVar 0)) (dFn fLen (dCons (dFld "asked" (dVar 0)) dNil)))) (dBin oGet (dFld "asked" (dVar 0)) (dFld "many" (dVar 0))) (dC (.int 0))) (gN 2))
    (sFldD "many" (dBin oAdd (dFld "many" (dVar 0)) (dC (.int 1))) (dVar 0))) (sIf (dTest (dBin oEq (dBin oGet (dVar 1) (dC (.int 0))) (dC (.str "read")))) (sAsg (dBin oGet (dFld "kept" (dVar 0)) (dBin oGet (dVar 1) (dC (.int 1)))) (gN 2)) (sAsg (dBin oGet (dVar 1) (dNeg (dC (.int 1)))) (gN 2))))
    (sSeq (sIf (dTest (dBin oEq (dBin oGet (dVar 1) (dC (.int 0))) (dC (.str "write")))) (sPut (dFld "kept" (dVar 0)) (dBin oGet (dVar 1) (dC (.int 1))) (dVar 2)) sNil)
    (sSeq (sIf (dTest (dBin oEq (dBin oGet (dVar 1) (dC (.int 0))) (dC (.str "say")))) (sExpr (dAppend (dFld "spoken" (dVar 0)) (dVar 2))) sNil)
    (sSeq (sExpr (dAppend (dFld "marks" (dVar 0)) (dIf (dTest (dBin oIn (dBin oGet (dVar 1) (dC (.int 0))) (dTup (dCons (dC (.str "write")) (dCons (dC (.str "say")) dNil))))) (dVar 1) (dBin oAdd (dVar 1) (dTup (dCons (dVar 2) dNil))))))
    (sRet (dVar 2))))))
def b_f_once (c c2 : CF → Fn) : SDen :=
    (sRet (dSS (dVar 0)))
def b_f_is_mark (c c2 : CF → Fn) : SDen :=
    (sSeq (sIf (bOr (bNot (dTest (dIsi "tuple" (dVar 0)))) (bOr (dTest (dBin oEq (dFn fLen (dCons (dVar 0) dNil)) (dC (.int 0)))) (bNot (dTest (dIsi "str" (dBin oGet (dVar 0) (dC (.int 0)))))))) (sRet (dC (.bl false))) sNil)
    (sSeq (sIf (dTest (dBin oIn (dBin oGet (dVar 0) (dC (.int 0))) (dTup (dCons (dC (.str "say")) (dCons (dC (.str "ask")) dNil))))) (sRet (dBin oEq (dFn fLen (dCons (dVar 0) dNil)) (dC (.int 1)))) sNil)
    (sSeq (sIf (bOr (dTest (dBin oNe (dFn fLen (dCons (dVar 0) dNil)) (dC (.int 2)))) (bNot (dTest (dIsi "str" (dBin oGet (dVar 0) (dC (.int 1))))))) (sRet (dC (.bl false))) sNil)
    (sSeq (sIf (dTest (dBin oEq (dBin oGet (dVar 0) (dC (.int 0))) (dC (.str "do")))) (sRet (dAndV (dCall 2 (c .f_is_word) (dCons (dBin oGet (dVar 0) (dC (.int 1))) (dCons (dC (.str "fg")) dNil))) (dBin oIn (dBin oGet (dVar 0) (dC (.int 1))) (dVar 1)))) sNil)
    (sRet (dAndV (dBin oIn (dBin oGet (dVar 0) (dC (.int 0))) (dTup (dCons (dC (.str "read")) (dCons (dC (.str "write")) dNil)))) (dAndV (dBin oEq (dFn fLen (dCons (dBin oGet (dVar 0) (dC (.int 1))) dNil)) (dC (.int 1))) (dBin oIn (dBin oGet (dVar 0) (dC (.int 1))) (dC (.str "abcd"))))))))))
def b_f_is_kind (c c2 : CF → Fn) : SDen :=
    (sSeq (sIf (bOr (bNot (dTest (dIsi "list" (dVar 0)))) (bNot (dTest (dFn fAll (dCons (dLc (iAny (dVar 0)) (gN 2) bYes (dCall 2 (c .f_is_mark) (dCons (dVar 2) (dCons (dVar 1) dNil))) [2]) dNil))))) (sRet (dC (.bl false))) sNil)
    (sRet (dFn fAll (dCons (dLc (iZipD (dVar 0) (dSl (dVar 0) (dPart (dC (.int 1))) dNoPart)) (gT 2 (gsCons (gN 3) (gsCons (gN 4) gsNil))) bYes (dBin oLtM (dVar 3) (dVar 4)) [3, 4]) dNil))))
def b_f_is_less (c c2 : CF → Fn) : SDen :=
    (sRet (dFn fAll (dCons (dLc (iAny (dVar 0)) (gN 2) bYes (dBin oIn (dVar 2) (dVar 1)) [2]) dNil)))
def b_f_joined (c c2 : CF → Fn) : SDen :=
    (sRet (dCall 1 (c .f_once) (dCons (dBin oAdd (dVar 0) (dVar 1)) dNil)))
def b_f_both_of (c c2 : CF → Fn) : SDen :=
    (sRet (dLc (iAny (dVar 0)) (gN 2) (dTest (dBin oIn (dVar 2) (dVar 1))) (dVar 2) [2]))
def b_f__law_is_mark (c c2 : CF → Fn) : SDen :=
    (sSeq (sIf (bOr (bNot (dTest (dIsi "tuple" (dVar 0)))) (dTest (dBin oIn (dVar 0) (dTup (dCons (dTup (dCons (dC (.str "say")) dNil)) (dCons (dTup (dCons (dC (.str "ask")) dNil)) dNil)))))) (sRet (dIsi "tuple" (dVar 0))) sNil)
    (sSeq (sIf (bOr (dTest (dBin oNe (dFn fLen (dCons (dVar 0) dNil)) (dC (.int 2)))) (bOr (bNot (dTest (dIsi "str" (dBin oGet (dVar 0) (dC (.int 0)))))) (bNot (dTest (dIsi "str" (dBin oGet (dVar 0) (dC (.int 1)))))))) (sRet (dC (.bl false))) sNil)
    (sSeq (sIf (dTest (dBin oEq (dBin oGet (dVar 0) (dC (.int 0))) (dC (.str "do")))) (sRet (dBin oIn (dBin oGet (dVar 0) (dC (.int 1))) (dVar 1))) sNil)
    (sRet (dAndV (dBin oIn (dBin oGet (dVar 0) (dC (.int 0))) (dTup (dCons (dC (.str "read")) (dCons (dC (.str "write")) dNil)))) (dBin oIn (dBin oGet (dVar 0) (dC (.int 1))) (dTup (dCons (dC (.str "a")) (dCons (dC (.str "b")) (dCons (dC (.str "c")) (dCons (dC (.str "d")) dNil)))))))))))
def b_f__law_is_kind (c c2 : CF → Fn) : SDen :=
    (sSeq (sIf (bOr (bNot (dTest (dIsi "list" (dVar 0)))) (dTest (dBin oNe (dLc (iAny (dVar 0)) (gN 2) (bNot (dTest (dCall 2 (c .f__law_is_mark) (dCons (dVar 2) (dCons (dVar 1) dNil))))) (dVar 2) [2]) (dLst dNil)))) (sRet (dC (.bl false))) sNil)
    (sRet (dBin oEq (dVar 0) (dSS (dVar 0)))))
def b_f__law_kind (c c2 : CF → Fn) : SDen :=
    (sSeq (sAsg (dBin oAdd (dLst (dCons (dTup (dCons (dC (.str "ask")) dNil)) (dCons (dTup (dCons (dC (.str "say")) dNil)) dNil))) (dLc (iAny (dVar 2)) (gN 5) bYes (dTup (dCons (dC (.str "do")) (dCons (dVar 5) dNil))) [5])) (gN 3))
    (sSeq (sFor (iAny (dC (.str "abcd"))) (gN 4) (sAsg (dBin oAdd (dVar 3) (dLst (dCons (dTup (dCons (dC (.str "read")) (dCons (dVar 4) dNil))) (dCons (dTup (dCons (dC (.str "write")) (dCons (dVar 4) dNil))) dNil)))) (gN 3)))
    (sRet (dFn fSorted (dCons (dLc (iEnumA (dVar 3)) (gT 2 (gsCons (gN 6) (gsCons (gN 7) gsNil))) (dTest (dBin oEq (dCall 3 (c .f__law_drawn) (dCons (dVar 0) (dCons (dBin oAdd (dVar 1) (dVar 6)) (dCons (dC (.int 3)) dNil)))) (dC (.int 0)))) (dVar 7) [6, 7]) dNil)))))
def cbody (c c2 : CF → Fn) : CF → Fn
  | .f_is_word => runFn 2 3 (b_f_is_word c c2)
  | .f__law_cell => runFn 2 2 (b_f__law_cell c c2)
  | .f__law_drawn => runFn 3 4 (b_f__law_drawn c c2)
  | .f__law_odd => runFn 1 2 (b_f__law_odd c c2)
  | .f__law_spoilt => runFn 3 5 (b_f__law_spoilt c c2)
  | .m_Run_touch => runFn 2 2 (b_m_Run_touch c c2)
  | .m_Run_worth => runFn 3 6 (b_m_Run_worth c c2)
  | .m_Run_at_shelf => runFn 3 5 (b_m_Run_at_shelf c c2)
  | .m_Run_with_names => runFn 3 10 (b_m_Run_with_names c c2)
  | .m_Run_put_together => runFn 3 7 (b_m_Run_put_together c c2)
  | .m_World_touched => runFn 2 3 (b_m_World_touched c c2)
  | .f_once => runFn 1 1 (b_f_once c c2)
  | .f_is_mark => runFn 2 2 (b_f_is_mark c c2)
  | .f_is_kind => runFn 2 5 (b_f_is_kind c c2)
  | .f_is_less => runFn 2 3 (b_f_is_less c c2)
  | .f_joined => runFn 2 2 (b_f_joined c c2)
  | .f_both_of => runFn 2 3 (b_f_both_of c c2)
  | .f__law_is_mark => runFn 2 2 (b_f__law_is_mark c c2)
  | .f__law_is_kind => runFn 2 3 (b_f__law_is_kind c c2)
  | .f__law_kind => runFn 3 8 (b_f__law_kind c c2)
def csem : Nat → CF → Fn
  | 0 => fun _ _ _ => .bad
  | 1 => fun _ _ _ => .bad
  | n + 2 => cbody (csem (n + 1)) (csem n)
theorem cs_f_is_word (n : Nat) : csem (n + 2) .f_is_word = runFn 2 3 (b_f_is_word (csem (n + 1)) (csem n)) := rfl
theorem cs_f__law_cell (n : Nat) : csem (n + 2) .f__law_cell = runFn 2 2 (b_f__law_cell (csem (n + 1)) (csem n)) := rfl
theorem cs_f__law_drawn (n : Nat) : csem (n + 2) .f__law_drawn = runFn 3 4 (b_f__law_drawn (csem (n + 1)) (csem n)) := rfl
theorem cs_f__law_odd (n : Nat) : csem (n + 2) .f__law_odd = runFn 1 2 (b_f__law_odd (csem (n + 1)) (csem n)) := rfl
theorem cs_f__law_spoilt (n : Nat) : csem (n + 2) .f__law_spoilt = runFn 3 5 (b_f__law_spoilt (csem (n + 1)) (csem n)) := rfl
theorem cs_m_Run_touch (n : Nat) : csem (n + 2) .m_Run_touch = runFn 2 2 (b_m_Run_touch (csem (n + 1)) (csem n)) := rfl
theorem cs_m_Run_worth (n : Nat) : csem (n + 2) .m_Run_worth = runFn 3 6 (b_m_Run_worth (csem (n + 1)) (csem n)) := rfl
theorem cs_m_Run_at_shelf (n : Nat) : csem (n + 2) .m_Run_at_shelf = runFn 3 5 (b_m_Run_at_shelf (csem (n + 1)) (csem n)) := rfl
theorem cs_m_Run_with_names (n : Nat) : csem (n + 2) .m_Run_with_names = runFn 3 10 (b_m_Run_with_names (csem (n + 1)) (csem n)) := rfl
theorem cs_m_Run_put_together (n : Nat) : csem (n + 2) .m_Run_put_together = runFn 3 7 (b_m_Run_put_together (csem (n + 1)) (csem n)) := rfl
theorem cs_m_World_touched (n : Nat) : csem (n + 2) .m_World_touched = runFn 2 3 (b_m_World_touched (csem (n + 1)) (csem n)) := rfl
theorem cs_f_once (n : Nat) : csem (n + 2) .f_once = runFn 1 1 (b_f_once (csem (n + 1)) (csem n)) := rfl
theorem cs_f_is_mark (n : Nat) : csem (n + 2) .f_is_mark = runFn 2 2 (b_f_is_mark (csem (n + 1)) (csem n)) := rfl
theorem cs_f_is_kind (n : Nat) : csem (n + 2) .f_is_kind = runFn 2 5 (b_f_is_kind (csem (n + 1)) (csem n)) := rfl
theorem cs_f_is_less (n : Nat) : csem (n + 2) .f_is_less = runFn 2 3 (b_f_is_less (csem (n + 1)) (csem n)) := rfl
theorem cs_f_joined (n : Nat) : csem (n + 2) .f_joined = runFn 2 2 (b_f_joined (csem (n + 1)) (csem n)) := rfl
theorem cs_f_both_of (n : Nat) : csem (n + 2) .f_both_of = runFn 2 3 (b_f_both_of (csem (n + 1)) (csem n)) := rfl
theorem cs_f__law_is_mark (n : Nat) : csem (n + 2) .f__law_is_mark = runFn 2 2 (b_f__law_is_mark (csem (n + 1)) (csem n)) := rfl
theorem cs_f__law_is_kind (n : Nat) : csem (n + 2) .f__law_is_kind = runFn 2 3 (b_f__law_is_kind (csem (n + 1)) (csem n)) := rfl
theorem cs_f__law_kind (n : Nat) : csem (n + 2) .f__law_kind = runFn 3 8 (b_f__law_kind (csem (n + 1)) (csem n)) := rfl
end DL

set_option Elab.async false
set_option linter.all false
set_option maxRecDepth 100000
set_option maxHeartbeats 1000000
namespace DL
open PySem L2
def fin : R Fl → R D
  | .ok (.nx _) S' => .ok .non S'
  | .ok (.rt d) S' => .ok d S'
  | .ok (.ex c _) S' => .exc c S'
  | _ => .bad
theorem runFn_fin {np nN : Nat} {b : SDen} {ds : List D} {S : Sto} (h : ds.length = np) : runFn np nN b ds S = fin (b (ds.map some ++ List.replicate (nN - np) none) S) := by
  unfold runFn
  rw [if_pos h]
  cases b (ds.map some ++ List.replicate (nN - np) none) S with
  | ok f S' => cases f <;> rfl
  | _ => rfl
theorem items_tup {S : Sto} {ds : List D} : items S (.tup ds) = some ds := rfl
section
variable {o o' : Op} {a b c : Den} {ba bb : DenB} {r : DenA} {p q : DenO} {ε : Env} {S : Sto} {d e : D} {i : Nat} {u v : SDen} {g : GDen} {gs : GDens} {ds : List D} {f : Fn} {n : Nat} {F : Fn} {m x : Str}
@[simp] theorem x_C : dC d ε S = .ok d S := rfl
@[simp] theorem x_Var {d : D} (h : ε[i]? = some (some d)) : dVar i ε S = .ok d S := by unfold dVar; rw [h]
@[simp] theorem x_Nil : dNil ε S = .ok [] S := rfl
@[simp] theorem x_Cons : dCons a r ε S = (a ε S).bind fun d S => (r ε S).bind fun ds S => .ok (d :: ds) S := rfl
@[simp] theorem x_Tup : dTup r ε S = (r ε S).bind mkTup := rfl
@[simp] theorem x_Lst : dLst r ε S = (r ε S).bind mkLst := rfl
@[simp] theorem x_Bin : dBin o a b ε S = (a ε S).bind fun d S => (b ε S).bind fun e S => o d e S := rfl
@[simp] theorem x_bind {α β : Type} {a : α} {k : α → Sto → R β} : (R.ok a S).bind k = k a S := rfl
@[simp] theorem x_bindB {α β : Type} {k : α → Sto → R β} : (R.bad : R α).bind k = .bad := rfl
@[simp] theorem x_bindX {α β : Type} {k : α → Sto → R β} : (R.exc x S : R α).bind k = .exc x S := rfl
@[simp] theorem x_Test {t : Bool} (h : a ε S = .ok (.bl t) S) : dTest a ε S = .ok t S := by unfold dTest; rw [h]; rfl
@[simp] theorem x_And : bAnd ba bb ε S = (ba ε S).bind fun c S => if c = true then bb ε S else .ok false S := rfl
@[simp] theorem x_Or : bOr ba bb ε S = (ba ε S).bind fun c S => if c = true then .ok true S else bb ε S := rfl
@[simp] theorem x_Not : bNot ba ε S = (ba ε S).bind fun c S => .ok (!c) S := rfl
@[simp] theorem x_If : dIf ba a b ε S = (ba ε S).bind fun k S => if k = true then a ε S else b ε S := rfl
@[simp] theorem x_Fn : dFn f r ε S = (r ε S).bind fun ds S => f ds S := rfl
@[simp] theorem x_Call : dCall n F r ε S = (r ε S).bind fun ds S => if ds.length = n then F ds S else .bad := rfl
@[simp] theorem x_NoPart : dNoPart ε S = .ok none S := rfl
@[simp] theorem x_Sl : dSl a p q ε S = (a ε S).bind fun d S => (p ε S).bind fun l S => (q ε S).bind fun u S => oSl d l u S := rfl
@[simp] theorem x_sNil : sNil ε S = .ok (.nx ε) S := rfl
@[simp] theorem x_Seq : sSeq u v ε S = sN (u ε S) v := rfl
@[simp] theorem x_Ret : sRet a ε S = sE (a ε S) ε fun d S => .ok (.rt d) S := rfl
@[simp] theorem x_Expr : sExpr a ε S = sE (a ε S) ε fun _ S => .ok (.nx ε) S := rfl
@[simp] theorem x_sIf : sIf ba u v ε S = sE (ba ε S) ε fun k S => if k = true then u ε S else v ε S := rfl
@[simp] theorem x_Asg : sAsg a g ε S = sE (a ε S) ε fun d S => match g d ε S with
  | some ε' => .ok (.nx ε') S
  | none => .bad := rfl
@[simp] theorem x_gN : gN i d ε S = some (ε.set i (some d)) := rfl
@[simp] theorem x_gsNil : gsNil [] ε S = some ε := rfl
@[simp] theorem x_gsCons : gsCons g gs (d :: ds) ε S = (g d ε S).bind fun ε => gs ds ε S := rfl
@[simp] theorem x_sE {α : Type} {a : α} {k : α → Sto → R Fl} : sE (R.ok a S) ε k = k a S := rfl
@[simp] theorem x_sN {k : Env → Sto → R Fl} : sN (.ok (.nx ε) S) k = k ε S := rfl
@[simp] theorem x_sNr {k : Env → Sto → R Fl} : sN (.ok (.rt d) S) k = .ok (.rt d) S := rfl
@[simp] theorem x_run {np nN : Nat} {b : SDen} (h : ds.length = np) : runFn np nN b ds S = fin (b (ds.map some ++ List.replicate (nN - np) none) S) := runFn_fin h
@[simp] theorem x_fin : fin (.ok (.rt d) S) = .ok d S := rfl
@[simp] theorem x_finN : fin (.ok (.nx ε) S) = .ok .non S := rfl
@[simp] theorem x_addI {i j : Int} : oAdd (.int i) (.int j) S = .ok (.int (i + j)) S := rfl
@[simp] theorem x_subI {i j : Int} : oSub (.int i) (.int j) S = .ok (.int (i - j)) S := rfl
@[simp] theorem x_modI {i j : Int} : oMod (.int i) (.int j) S = if 0 < j then .ok (.int (i % j)) S else .bad := rfl
@[simp] theorem x_divI {i j : Int} : oDiv (.int i) (.int j) S = if 0 < j ∧ j < 1073741824 then .ok (.int (i / j)) S else .bad := rfl
@[simp] theorem x_mulI {i j : Int} : oMul (.int i) (.int j) S = if (-(2 ^ 64) < i ∧ i < 2 ^ 64) ∨ (-(2 ^ 64) < j ∧ j < 2 ^ 64) then .ok (.int (i * j)) S else .bad := rfl
@[simp] theorem x_eqI {i j : Int} : oEq (.int i) (.int j) S = .ok (.bl (decide (i = j))) S := rfl
@[simp] theorem x_eqS {i j : Str} : oEq (.str i) (.str j) S = .ok (.bl (decide (i = j))) S := rfl
@[simp] theorem x_neI {i j : Int} : oNe (.int i) (.int j) S = .ok (.bl (!decide (i = j))) S := rfl
@[simp] theorem x_ltI {i j : Int} : oLt (.int i) (.int j) S = .ok (.bl (decide (i < j))) S := rfl
@[simp] theorem x_leI {i j : Int} : oLe (.int i) (.int j) S = .ok (.bl (decide (i ≤ j))) S := rfl
@[simp] theorem x_gtI {i j : Int} : oGt (.int i) (.int j) S = .ok (.bl (decide (j < i))) S := rfl
@[simp] theorem x_geI {i j : Int} : oGe (.int i) (.int j) S = .ok (.bl (decide (j ≤ i))) S := rfl
@[simp] theorem x_mkTup (h : ds.length ≤ 1000) : mkTup ds S = .ok (.tup ds) S := by unfold mkTup; rw [if_pos (show ds.length ≤ big from Nat.le_trans h (by decide))]
@[simp] theorem x_mkLst (h : ds.length ≤ 1000) : mkLst ds S = .ok (.ref S.length) (S ++ [.lst ds]) := by unfold mkLst; rw [if_pos (show ds.length ≤ big from Nat.le_trans h (by decide))]
@[simp] theorem x_lenT : fLen [.tup ds] S = .ok (.int ds.length) S := rfl
@[simp] theorem x_lenS : fLen [.seq ds] S = .ok (.int ds.length) S := rfl
end
theorem x_get {S : Sto} {d : D} {i : Int} {ds : List D} {e : D} (hd : dctAt S d = none) (h : items S d = some ds) (he : atI ds i = some e) : oGet d (.int i) S = .ok e S := by
  unfold oGet
  rw [hd]
  unfold oIx
  cases d <;> simp_all [items]
@[simp] theorem x_getT {S : Sto} {i : Int} {ds : List D} : oGet (.tup ds) (.int i) S = (match atI ds i with | some e => .ok e S | none => .bad) := rfl
@[simp] theorem x_getS {S : Sto} {i : Int} {ds : List D} : oGet (.seq ds) (.int i) S = (match atI ds i with | some e => .ok e S | none => .bad) := rfl
theorem atI_in {α : Type} {l : List α} {i : Int} (h0 : 0 ≤ i) (h1 : i < l.length) : atI l i = l[i.toNat]? := by
  unfold atI ixN
  rw [if_pos h0, if_pos h1]
  rfl
@[simp] theorem atI_0 {α : Type} {x : α} {l : List α} : atI (x :: l) 0 = some x := by rw [atI_in (by omega) (by simp)]; rfl
@[simp] theorem atI_1 {α : Type} {x y : α} {l : List α} : atI (x :: y :: l) 1 = some y := by rw [atI_in (by omega) (by simp; omega)]; rfl
@[simp] theorem atI_2 {α : Type} {x y z : α} {l : List α} : atI (x :: y :: z :: l) 2 = some z := by rw [atI_in (by omega) (by simp; omega)]; rfl
@[simp] theorem atI_3 {α : Type} {x y z w : α} {l : List α} : atI (x :: y :: z :: w :: l) 3 = some w := by rw [atI_in (by omega) (by simp; omega)]; rfl
mutual
def nb : PyData → Bool
  | .none => true
  | .bool _ => false
  | .int _ => true
  | .str _ => true
  | .list xs => nbs xs
  | .tuple xs => nbs xs
  | .dict _ => false
def nbs : List PyData → Bool
  | [] => true
  | x :: xs => nb x && nbs xs
end
mutual
theorem eqv_iff : ∀ p q : PyData, nb p = true → nb q = true → (PyData.eqv p q = true ↔ p = q)
  | .none, q, _, hq => by cases q <;> simp_all [nb, PyData.eqv]
  | .bool _, q, hp, _ => by simp [nb] at hp
  | .int _, q, _, hq => by cases q <;> simp_all [nb, PyData.eqv]
  | .str _, q, _, hq => by cases q <;> simp_all [nb, PyData.eqv]
  | .dict _, q, hp, _ => by simp [nb] at hp
  | .list xs, q, hp, hq => by
    cases q with
    | list ys =>
      have h := eqvs_iff xs ys (by simpa [nb] using hp) (by simpa [nb] using hq)
      simp [PyData.eqv, h]
    | _ => simp_all [nb, PyData.eqv]
  | .tuple xs, q, hp, hq => by
    cases q with
    | tuple ys =>
      have h := eqvs_iff xs ys (by simpa [nb] using hp) (by simpa [nb] using hq)
      simp [PyData.eqv, h]
    | _ => simp_all [nb, PyData.eqv]
theorem eqvs_iff : ∀ p q : List PyData, nbs p = true → nbs q = true → (PyData.eqvAll p q = true ↔ p = q)
  | [], q, _, _ => by cases q <;> simp [PyData.eqvAll]
  | x :: xs, q, hp, hq => by
    cases q with
    | nil => simp [PyData.eqvAll]
    | cons y ys =>
      simp only [nbs, Bool.and_eq_true] at hp hq
      simp [PyData.eqvAll, eqv_iff x y hp.1 hq.1, eqvs_iff xs ys hp.2 hq.2]
end
theorem frz_i {n : Nat} {S : Sto} {i : Int} : frz (n + 1) S (.int i) = some (.int i) := rfl
theorem frz_l {n m : Nat} {S : Sto} {ds : List D} (h : S[m]? = some (.lst ds)) : frz (n + 1) S (.ref m) = (fall (frz n S) ds).map .list := by
  unfold frz
  simp only [h]
theorem fall_cons {α β : Type} {f : α → Option β} {a : α} {r : List α} {b : β} {s : List β} (h : f a = some b) (hr : fall f r = some s) : fall f (a :: r) = some (b :: s) := by
  unfold fall
  rw [h, hr]
theorem frz_ints (n : Nat) (S : Sto) : ∀ ns : List Int, fall (frz (n + 1) S) (ns.map D.int) = some (ns.map PyData.int)
  | [] => rfl
  | i :: r => fall_cons frz_i (frz_ints n S r)
theorem nbs_ints : ∀ ns : List Int, nbs (ns.map PyData.int) = true
  | [] => rfl
  | i :: r => by simp [nbs, nb, nbs_ints r]
theorem lay_ints : ∀ ns : List Int, PyData.canLayAll0 (ns.map PyData.int) = true ∧ PyData.depthAll (ns.map PyData.int) ≤ 1
  | [] => ⟨rfl, by decide⟩
  | i :: r => by
    obtain ⟨a, b⟩ := lay_ints r
    refine ⟨by simp [PyData.canLayAll0, PyData.canLay0, a], ?_⟩
    simp only [List.map_cons, PyData.depthAll, PyData.depth]
    omega
theorem shaped_ints (ns : List Int) : SeqAt.shaped (.list (ns.map PyData.int)) = true := by
  obtain ⟨a, b⟩ := lay_ints ns
  have c : PyData.depth (.list (ns.map PyData.int)) ≤ 64 := by
    rw [PyData.depth]
    omega
  unfold SeqAt.shaped
  rw [PyData.canLay0, a, decide_eq_true c]
  rfl
theorem dEq_frz {S : Sto} {d e : D} {p q : PyData} (hs : sEq d e = none) (hp : frz deep S d = some p) (hq : frz deep S e = some q) (sp : SeqAt.shaped p = true) (sq : SeqAt.shaped q = true) : dEq S d e = some (PyData.eqv p q) := by
  unfold dEq
  simp only [hs, hp, hq]
  rw [if_pos ⟨sp, sq⟩]
theorem dEq_ints {S : Sto} {ns : List Int} {n : Nat} (h : S[n]? = some (.lst [])) : dEq S (.seq (ns.map D.int)) (.ref n) = some (decide (ns = [])) := by
  have e1 : frz deep S (.seq (ns.map D.int)) = some (.list (ns.map PyData.int)) := by
    show (fall (frz (38 + 1) S) (ns.map D.int)).map PyData.list = _
    rw [frz_ints]
    rfl
  have e2 : frz deep S (.ref n) = some (.list []) := by
    show frz (39 + 1) S (.ref n) = _
    rw [frz_l h]
    rfl
  rw [dEq_frz rfl e1 e2 (shaped_ints ns) (shaped_ints [])]
  congr 1
  rw [Bool.eq_iff_iff, eqv_iff _ _ (by simp [nb, nbs_ints]) rfl]
  simp
def Pur (f : Sto → R D) (d : D) : Prop := ∀ S, ∃ E, f S = .ok d (S ++ E)
def cellv (ns : List Int) (k : Int) : Int := if ns = [] then 7 * k else (ns[(k % (ns.length : Int)).toNat]?).getD 0 + 6553 * (k / (ns.length : Int))
theorem cell_sem (n : Nat) (ns : List Int) (k : Int) (hk : 0 ≤ k) (hl : ns.length ≤ 63) : Pur (csem (n + 2) .f__law_cell [.seq (ns.map D.int), .int k]) (.int (cellv ns k)) := fun S => by
  refine ⟨[.lst []], ?_⟩
  rw [cs_f__law_cell]
  have e : dEq (S ++ [O.lst []]) (.seq (ns.map D.int)) (.ref S.length) = some (decide (ns = [])) := dEq_ints (by simp)
  simp [b_f__law_cell, dTest, oEq, e]
  by_cases h : ns = []
  · simp [h, cellv]
  · have hp : 0 < (ns.length : Int) := by have := List.length_pos_iff.mpr h; omega
    have e1 := Int.emod_nonneg k (show (ns.length : Int) ≠ 0 by omega)
    have e2 := Int.emod_lt_of_pos k hp
    have e3 : atI (ns.map D.int) (k % (ns.length : Int)) = some (.int ((ns[(k % (ns.length : Int)).toNat]?).getD 0)) := by
      rw [atI_in e1 (by simpa using e2), List.getElem?_map, List.getElem?_eq_getElem (show (k % (ns.length : Int)).toNat < ns.length by omega)]
      rfl
    have e4 : (ns.length : Int) < 1073741824 := by omega
    simp [h, hp, List.length_pos_iff.mpr h, e3, e4, cellv]
def drw (ns : List Int) (k m : Int) : Int :=
  let a := (cellv ns k % 2147483563 * 69069 + 104723 * (k + 1)) % 2147483563
  let b := (a * a + a / 3) % 2147483399
  (b * b + b / 7) % 2147483647 / 11 % m
theorem drw_lo (ns : List Int) (k : Int) {m : Int} (h : 0 < m) : 0 ≤ drw ns k m := Int.emod_nonneg _ (by omega)
theorem drw_hi (ns : List Int) (k : Int) {m : Int} (h : 0 < m) : drw ns k m < m := Int.emod_lt_of_pos _ h
theorem drawn_sem (n : Nat) (ns : List Int) (k m : Int) (hk : 0 ≤ k) (hm : 0 < m) (hl : ns.length ≤ 63) : Pur (csem (n + 3) .f__law_drawn [.seq (ns.map D.int), .int k, .int m]) (.int (drw ns k m)) := fun S => by
  obtain ⟨E, e⟩ := cell_sem n ns k hk hl S
  refine ⟨E, ?_⟩
  rw [cs_f__law_drawn]
  have b1 := Int.emod_nonneg (cellv ns k) (show (2147483563 : Int) ≠ 0 by decide)
  have b2 := Int.emod_lt_of_pos (cellv ns k) (show (0 : Int) < 2147483563 by decide)
  have c1 := Int.emod_nonneg (cellv ns k % 2147483563 * 69069 + 104723 * (k + 1)) (show (2147483563 : Int) ≠ 0 by decide)
  have c2 := Int.emod_lt_of_pos (cellv ns k % 2147483563 * 69069 + 104723 * (k + 1)) (show (0 : Int) < 2147483563 by decide)
  simp [b_f__law_drawn, e]
  generalize hA : (cellv ns k % 2147483563 * 69069 + 104723 * (k + 1)) % 2147483563 = A at *
  have t1 : -(2 ^ 64) < A ∧ A < 2 ^ 64 := by omega
  have c3 := Int.emod_nonneg (A * A + A / 3) (show (2147483399 : Int) ≠ 0 by decide)
  have c4 := Int.emod_lt_of_pos (A * A + A / 3) (show (0 : Int) < 2147483399 by decide)
  have t1' : -18446744073709551616 < A ∧ A < 18446744073709551616 := by omega
  simp [t1']
  generalize hB : (A * A + A / 3) % 2147483399 = B at *
  have t2 : -18446744073709551616 < B ∧ B < 18446744073709551616 := by omega
  simp [t2, hm, drw, hA, hB]
end DL

set_option Elab.async false
set_option linter.all false
set_option maxRecDepth 100000
set_option maxHeartbeats 1000000
namespace DL
open PySem L2
inductive Two where
  | thn | add | les | lop
inductive Deed where
  | num (i : Int) | nam (x : Str) | dod (x : Str) | ask | rd (x : Str)
  | wr (x : Str) (a : Deed) | say (a : Deed) | lt (x : Str) (a b : Deed) | own (x : Str) (a b : Deed)
  | iff (a b c : Deed) | two (w : Two) (a b : Deed) | call (i : Nat) (ps hs : List Deed)
def Two.w : Two → Str
  | .thn => "then" | .add => "add" | .les => "less" | .lop => "loop"
def abcd : List Str := ["a", "b", "c", "d"]
def kd (x : Str) : Nat := if x ∈ (["x", "y", "x1", "z"] : List Str) then 1 else if x ∈ (["p", "q"] : List Str) then 2 else if x ∈ (["f", "g1", "g"] : List Str) then 3 else 0
mutual
def enc : Deed → D
  | .num i => .tup [.str "number", .int i]
  | .nam x => .tup [.str "name", .str x]
  | .dod x => .tup [.str "do", .str x]
  | .ask => .tup [.str "ask"]
  | .rd x => .tup [.str "read", .str x]
  | .wr x a => .tup [.str "write", .str x, enc a]
  | .say a => .tup [.str "say", enc a]
  | .lt x a b => .tup [.str "let", .str x, enc a, enc b]
  | .own x a b => .tup [.str "own", .str x, enc a, enc b]
  | .iff a b c => .tup [.str "if", enc a, enc b, enc c]
  | .two w a b => .tup [.str w.w, enc a, enc b]
  | .call i ps hs => .tup [.str "call", .int i, .tup (encs ps), .tup (encs hs)]
def encs : List Deed → List D
  | [] => []
  | d :: ds => enc d :: encs ds
end
theorem encs_map : ∀ ds : List Deed, encs ds = ds.map enc
  | [] => rfl
  | d :: ds => by rw [encs, encs_map ds]; rfl
mutual
def dep : Deed → Nat
  | .num _ => 0 | .nam _ => 0 | .dod _ => 0 | .ask => 0 | .rd _ => 0
  | .wr _ a => dep a + 1
  | .say a => dep a + 1
  | .lt _ a b => max (dep a) (dep b) + 1
  | .own _ a b => max (dep a) (dep b) + 1
  | .iff a b c => max (dep a) (max (dep b) (dep c)) + 1
  | .two _ a b => max (dep a) (dep b) + 1
  | .call _ ps hs => max (deps ps) (deps hs) + 1
def deps : List Deed → Nat
  | [] => 0
  | d :: ds => max (dep d) (deps ds)
end
mutual
def okD (sz : List (Nat × Nat)) (K : List Str) : Deed → Prop
  | .num i => 0 ≤ i ∧ i ≤ 1008
  | .nam x => x ∈ K ∧ kd x = 1
  | .dod x => x ∈ K ∧ kd x = 3
  | .ask => True
  | .rd x => (x ∈ K ∧ kd x = 2) ∨ x ∈ abcd
  | .wr x a => ((x ∈ K ∧ kd x = 2) ∨ x ∈ abcd) ∧ okD sz K a
  | .say a => okD sz K a
  | .lt x a b => kd x = 1 ∧ okD sz K a ∧ okD sz (x :: K) b
  | .own x a b => kd x = 2 ∧ okD sz K a ∧ okD sz (x :: K) b
  | .iff a b c => okD sz K a ∧ okD sz K b ∧ okD sz K c
  | .two _ a b => okD sz K a ∧ okD sz K b
  | .call i ps hs => sz[i]? = some (ps.length, hs.length) ∧ okDs sz K ps ∧ okDs sz K hs
def okDs (sz : List (Nat × Nat)) (K : List Str) : List Deed → Prop
  | [] => True
  | d :: ds => okD sz K d ∧ okDs sz K ds
end
theorem sub_cons {x : Str} {K K' : List Str} (hk : ∀ y ∈ K, y ∈ K') : ∀ y ∈ x :: K, y ∈ x :: K' := fun y hy => by
  rcases List.mem_cons.mp hy with e | e
  · rw [e]; exact List.mem_cons_self
  · exact List.mem_cons_of_mem _ (hk y e)
mutual
theorem okD_mono {sz : List (Nat × Nat)} {sz' : List (Nat × Nat)} (hz : ∀ (i : Nat) (p : Nat × Nat), sz[i]? = some p → sz'[i]? = some p) : ∀ {K K' : List Str} (d : Deed), (∀ x ∈ K, x ∈ K') → okD sz K d → okD sz' K' d
  | _, _, .num i, _, h => h
  | _, _, .nam x, hk, h => ⟨hk _ h.1, h.2⟩
  | _, _, .dod x, hk, h => ⟨hk _ h.1, h.2⟩
  | _, _, .ask, _, h => trivial
  | _, _, .rd x, hk, h => h.imp (fun q => ⟨hk _ q.1, q.2⟩) id
  | _, _, .wr x a, hk, h => ⟨h.1.imp (fun q => ⟨hk _ q.1, q.2⟩) id, okD_mono hz a hk h.2⟩
  | _, _, .say a, hk, h => okD_mono hz a hk h
  | _, _, .lt x a b, hk, h => ⟨h.1, okD_mono hz a hk h.2.1, okD_mono hz b (sub_cons hk) h.2.2⟩
  | _, _, .own x a b, hk, h => ⟨h.1, okD_mono hz a hk h.2.1, okD_mono hz b (sub_cons hk) h.2.2⟩
  | _, _, .iff a b c, hk, h => ⟨okD_mono hz a hk h.1, okD_mono hz b hk h.2.1, okD_mono hz c hk h.2.2⟩
  | _, _, .two _ a b, hk, h => ⟨okD_mono hz a hk h.1, okD_mono hz b hk h.2⟩
  | _, _, .call i ps hs, hk, h => ⟨hz _ _ h.1, okDs_mono hz ps hk h.2.1, okDs_mono hz hs hk h.2.2⟩
theorem okDs_mono {sz : List (Nat × Nat)} {sz' : List (Nat × Nat)} (hz : ∀ (i : Nat) (p : Nat × Nat), sz[i]? = some p → sz'[i]? = some p) : ∀ {K K' : List Str} (ds : List Deed), (∀ x ∈ K, x ∈ K') → okDs sz K ds → okDs sz' K' ds
  | _, _, [], _, _ => trivial
  | _, _, d :: ds, hk, h => ⟨okD_mono hz d hk h.1, okDs_mono hz ds hk h.2⟩
end
def sok (x : Str) : Bool := PyData.canLay0 (.str x)
def Lay (p : PyData) (k : Nat) : Prop := PyData.canLay0 p = true ∧ PyData.depth p ≤ k
def Lays (p : List PyData) (k : Nat) : Prop := PyData.canLayAll0 p = true ∧ PyData.depthAll p ≤ k
theorem Lay.str {x : Str} (h : sok x = true) (k : Nat) : Lay (.str x) k := ⟨h, by rw [PyData.depth]; omega⟩
theorem Lay.int (i : Int) (k : Nat) : Lay (.int i) k := ⟨rfl, by rw [PyData.depth]; omega⟩
theorem Lays.nil (k : Nat) : Lays [] k := ⟨rfl, by rw [PyData.depthAll]; omega⟩
theorem Lays.cons {p : PyData} {ps : List PyData} {k : Nat} (h : Lay p k) (hs : Lays ps k) : Lays (p :: ps) k :=
  ⟨by rw [PyData.canLayAll0, h.1, hs.1]; rfl, by rw [PyData.depthAll]; exact Nat.max_le.mpr ⟨h.2, hs.2⟩⟩
theorem Lay.tup {ps : List PyData} {k : Nat} (h : Lays ps k) : Lay (.tuple ps) (k + 1) := ⟨by rw [PyData.canLay0]; exact h.1, by rw [PyData.depth]; exact Nat.succ_le_succ h.2⟩
theorem Lay.lst {ps : List PyData} {k : Nat} (h : Lays ps k) : Lay (.list ps) (k + 1) := ⟨by rw [PyData.canLay0]; exact h.1, by rw [PyData.depth]; exact Nat.succ_le_succ h.2⟩
theorem Lay.mono {p : PyData} {k j : Nat} (h : Lay p k) (hj : k ≤ j) : Lay p j := ⟨h.1, Nat.le_trans h.2 hj⟩
theorem Lays.mono {p : List PyData} {k j : Nat} (h : Lays p k) (hj : k ≤ j) : Lays p j := ⟨h.1, Nat.le_trans h.2 hj⟩
theorem Lay.shaped {p : PyData} {k : Nat} (h : Lay p k) (hk : k ≤ 64) : SeqAt.shaped p = true := by
  unfold SeqAt.shaped
  rw [h.1, decide_eq_true (Nat.le_trans h.2 hk)]
  rfl
structure Rule where
  ns : List Str
  hs : List Str
  b : Deed
def tstr (xs : List Str) : D := .tup (xs.map .str)
def encR (r : Rule) : D := .tup [tstr r.ns, tstr r.hs, enc r.b]
def encRs (rs : List Rule) : D := .tup (rs.map encR)
def szs (rs : List Rule) : List (Nat × Nat) := rs.map fun r => (r.ns.length, r.hs.length)
structure okRl (sz : List (Nat × Nat)) (r : Rule) : Prop where
  n : ∀ x ∈ r.ns, kd x = 1
  h : ∀ x ∈ r.hs, kd x = 3
  nn : r.ns.Nodup
  nh : r.hs.Nodup
  b : okD sz (r.ns ++ r.hs) r.b
def okRs (rs : List Rule) : Prop := ∀ i r, rs[i]? = some r → okRl (szs (rs.take i)) r
end DL

set_option Elab.async false
set_option linter.all false
set_option maxRecDepth 100000
set_option maxHeartbeats 1000000
namespace DL
open PySem L2
def PurE (B : Sto) (a : Den) (ε : Env) (d : D) : Prop := ∀ S, B <+: S → ∃ E, a ε S = .ok d (S ++ E)
def PurA (B : Sto) (a : DenA) (ε : Env) (ds : List D) : Prop := ∀ S, B <+: S → ∃ E, a ε S = .ok ds (S ++ E)
def PurB (B : Sto) (a : DenB) (ε : Env) (b : Bool) : Prop := ∀ S, B <+: S → ∃ E, a ε S = .ok b (S ++ E)
theorem pre_app {B S E : Sto} (h : B <+: S) : B <+: S ++ E := h.trans (List.prefix_append _ _)
section
variable {B : Sto} {o : Op} {a b c : Den} {ba bb : DenB} {r : DenA} {ε ε' : Env} {d e x : D} {i n : Nat} {u v w : SDen} {g : GDen} {ds : List D} {f : Fn} {F : Fn} {fl : Fl} {t t' : Bool} {j : Int}
theorem pC : PurE B (dC d) ε d := fun S hS => ⟨[], by simp⟩
theorem pV (h : ε[i]? = some (some d) := by rfl) : PurE B (dVar i) ε d := fun S hS => ⟨[], by simp [h]⟩
theorem pN : PurA B dNil ε [] := fun S hS => ⟨[], by simp⟩
theorem pK (ha : PurE B a ε d) (hr : PurA B r ε ds) : PurA B (dCons a r) ε (d :: ds) := fun S hS => by
  obtain ⟨E, e1⟩ := ha S hS
  obtain ⟨E2, e2⟩ := hr (S ++ E) (pre_app hS)
  exact ⟨E ++ E2, by simp [e1, e2]⟩
theorem pT (hr : PurA B r ε ds) (h : ds.length ≤ 1000 := by simp) : PurE B (dTup r) ε (.tup ds) := fun S hS => by
  obtain ⟨E, e1⟩ := hr S hS
  exact ⟨E, by simp [e1, h]⟩
theorem pO (ha : PurE B a ε d) (hb : PurE B b ε e) (h : ∀ S, o d e S = .ok x S) : PurE B (dBin o a b) ε x := fun S hS => by
  obtain ⟨E, e1⟩ := ha S hS
  obtain ⟨E2, e2⟩ := hb (S ++ E) (pre_app hS)
  exact ⟨E ++ E2, by simp [e1, e2, h]⟩
def PurR (B : Sto) (f : Sto → R D) (d : D) : Prop := ∀ S, B <+: S → ∃ E, f S = .ok d (S ++ E)
theorem Pur.rel {f : Sto → R D} (h : Pur f d) : PurR B f d := fun S _ => h S
theorem PurR.at {f : Sto → R D} (h : PurR [] f d) : Pur f d := fun S => h S (List.nil_prefix)
end
variable {B : Sto}
def scr (ns : List Int) : D := .seq (ns.map D.int)
structure KnOk (ns os hs : List Str) : Prop where
  n : ∀ x ∈ ns, kd x = 1
  o : ∀ x ∈ os, kd x = 2
  h : ∀ x ∈ hs, kd x = 3
  ln : ns.length ≤ 100
  lo : os.length ≤ 100
  lh : hs.length ≤ 100
end DL

set_option Elab.async false
set_option linter.all false
set_option maxRecDepth 100000
set_option maxHeartbeats 1000000
namespace DL
open PySem L2
theorem nums_get {m i : Nat} : (nums 0 m)[i]? = if i < m then some (.int (i : Int)) else none := by
  unfold nums
  rw [List.getElem?_map]
  by_cases h : i < m
  · rw [if_pos h, List.getElem?_eq_getElem (by simpa using h)]
    simp
  · rw [if_neg h, List.getElem?_eq_none (by simpa using h)]
    rfl
theorem mid_get {α : Type} {A B : List α} {x : α} : (A ++ [x] ++ B)[A.length]? = some x := by simp
theorem mid_set {α : Type} {A B : List α} {x y : α} : (A ++ [x] ++ B).set A.length y = A ++ [y] ++ B := by simp
theorem okR_of {i : Int} (h : 0 ≤ i) (h2 : i ≤ 100000) : okR i := by
  unfold okR
  constructor <;> omega
theorem iRange1_of {a : Den} {ε : Env} {S S' : Sto} {j : Int} (h : okR j) (ha : a ε S = .ok (.int j) S') : iRange1 a ε S = .ok (fun _ => some (nums 0 j.toNat)) S' := by
  unfold iRange1
  rw [ha, x_bind]
  show (if okR j then _ else _) = _
  rw [if_pos h]
theorem sFor_of {it : IDen} {g : GDen} {b : SDen} {ε ε' : Env} {S S1 S2 : Sto} {m : Nat} (hi : it ε S = .ok (fun _ => some (nums 0 m)) S1) (hf : forI (fun _ => some (nums 0 m)) g b (m + 1) 0 ε S1 = .ok (.nx ε') S2) : sFor it g b ε S = .ok (.nx ε') S2 := by
  unfold sFor
  rw [hi, x_sE]
  show forI _ g b ((nums 0 m).length + 1) 0 ε S1 = _
  rw [nums_len]
  exact hf
theorem getLast_app {α : Type} {A : List α} {x : α} : (A ++ [x])[A.length]? = some x := by simp
end DL

set_option Elab.async false
set_option linter.all false
set_option maxRecDepth 100000
set_option maxHeartbeats 1000000
namespace DL
open PySem L2
variable {B : Sto}
theorem KnOk.nam {ns os hs : List Str} {x : Str} (k : KnOk ns os hs) (h : kd x = 1) (hl : ns.length < 100) : KnOk (ns ++ [x]) os hs :=
  ⟨fun y hy => by rcases List.mem_append.mp hy with q | q; · exact k.n y q
                  · rw [List.mem_singleton.mp q]; exact h, k.o, k.h, by simp; omega, k.lo, k.lh⟩
theorem KnOk.ow {ns os hs : List Str} {x : Str} (k : KnOk ns os hs) (h : kd x = 2) (hl : os.length < 100) : KnOk ns (os ++ [x]) hs :=
  ⟨k.n, fun y hy => by rcases List.mem_append.mp hy with q | q; · exact k.o y q
                       · rw [List.mem_singleton.mp q]; exact h, k.h, k.ln, by simp; omega, k.lh⟩
structure RsOk (rs : List Rule) : Prop where
  ok : okRs rs
  dep : ∀ r ∈ rs, dep r.b ≤ 10
  len : ∀ r ∈ rs, r.ns.length ≤ 100 ∧ r.hs.length ≤ 100
end DL

set_option Elab.async false
set_option linter.all false
set_option maxRecDepth 100000
set_option maxHeartbeats 1000000
namespace DL
open PySem L2
variable {B : Sto}
def PurL (B : Sto) (a : Den) (ε : Env) (ds : List D) : Prop := ∀ S, B <+: S → ∃ E, a ε S = .ok (.ref (S ++ E).length) (S ++ E ++ [.lst ds])
def PurI (B : Sto) (it : IDen) (ε : Env) (xs : List D) : Prop := ∀ S, B <+: S → ∃ E src, it ε S = .ok src (S ++ E) ∧ ∀ S', S ++ E <+: S' → src S' = some xs
section
variable {it : IDen} {g : GDen} {c : DenB} {e a b : Den} {vs : List Nat} {ε : Env} {xs ys ds : List D} {p : D → Bool} {h : D → D} {src : Src} {m : Nat}
theorem lc_pure (hsrc : ∀ S', B <+: S' → src S' = some xs) (hx : ∀ x ∈ xs, ∃ ε', (∀ S, g x (wipeE ε vs) S = some ε') ∧ PurB B c ε' (p x) ∧ (p x = true → PurE B e ε' (h x))) (hl : xs.length ≤ 1000) :
    ∀ (k i : Nat) (acc : List D) (S : Sto), i + k = xs.length → acc.length ≤ i → B <+: S → ∃ E, lcI src g c e vs ε (k + 1) i acc S = .ok (acc ++ ((xs.drop i).filter p).map h) (S ++ E)
  | 0, i, acc, S, hk, ha, hS => by
    refine ⟨[], ?_⟩
    unfold lcI
    have e1 : xs[i]? = none := List.getElem?_eq_none (by omega)
    have e2 : xs.drop i = [] := List.drop_eq_nil_of_le (by omega)
    simp only [hsrc S hS, e1, e2]
    simp
  | k + 1, i, acc, S, hk, ha, hS => by
    have hi : i < xs.length := by omega
    have e1 : xs[i]? = some xs[i] := List.getElem?_eq_getElem hi
    obtain ⟨ε', hg, hc, he⟩ := hx xs[i] (List.getElem_mem hi)
    obtain ⟨E1, e2⟩ := hc S hS
    have e3 : xs.drop i = xs[i] :: xs.drop (i + 1) := List.drop_eq_getElem_cons hi
    unfold lcI
    simp only [hsrc S hS, e1, hg, e2, e3, noX, x_bind]
    by_cases hp : p xs[i] = true
    · obtain ⟨E2, e4⟩ := he hp (S ++ E1) (pre_app hS)
      obtain ⟨E3, e5⟩ := lc_pure hsrc hx hl k (i + 1) (acc ++ [h xs[i]]) (S ++ E1 ++ E2) (by omega) (by simp; omega) (pre_app (pre_app hS))
      refine ⟨E1 ++ E2 ++ E3, ?_⟩
      rw [if_pos hp, e4]
      simp only [noX, x_bind]
      rw [if_pos (show acc.length < big from Nat.lt_of_lt_of_le (show acc.length < 1001 by omega) (by decide)), e5, List.filter_cons_of_pos hp]
      simp
    · obtain ⟨E3, e5⟩ := lc_pure hsrc hx hl k (i + 1) acc (S ++ E1) (by omega) (by omega) (pre_app hS)
      refine ⟨E1 ++ E3, ?_⟩
      rw [if_neg hp, e5, List.filter_cons_of_neg hp]
      simp
theorem pLc (hi : PurI B it ε xs) (hx : ∀ x ∈ xs, ∃ ε', (∀ S, g x (wipeE ε vs) S = some ε') ∧ PurB B c ε' (p x) ∧ (p x = true → PurE B e ε' (h x))) (hl : xs.length ≤ 1000) : PurL B (dLc it g c e vs) ε ((xs.filter p).map h) := fun S hS => by
  obtain ⟨E, src, e1, hs⟩ := hi S hS
  have up : ∀ ε', (∀ t, PurB B c ε' t → PurB (S ++ E) c ε' t) ∧ ∀ d, PurE B e ε' d → PurE (S ++ E) e ε' d := fun ε' => ⟨fun t q S' hS' => q S' ((pre_app hS).trans hS'), fun d q S' hS' => q S' ((pre_app hS).trans hS')⟩
  obtain ⟨E2, e2⟩ := lc_pure (B := S ++ E) (p := p) (h := h) hs (fun x m => by
    obtain ⟨ε', a, b, k⟩ := hx x m
    exact ⟨ε', a, (up ε').1 _ b, fun q => (up ε').2 _ (k q)⟩) hl xs.length 0 [] (S ++ E) (by omega) (by simp) (List.prefix_refl _)
  refine ⟨E ++ E2, ?_⟩
  unfold dLc
  rw [e1, x_bind]
  simp only [hs (S ++ E) (List.prefix_refl _), e2, x_bind, lcEnd]
  simp
theorem bYes_pure {ε : Env} : PurB B bYes ε true := fun S _ => ⟨[], by simp [bYes]⟩
theorem pLc1 (hi : PurI B it ε xs) (hx : ∀ x ∈ xs, ∃ ε', (∀ S, g x (wipeE ε vs) S = some ε') ∧ PurE B e ε' (h x)) (hl : xs.length ≤ 1000) : PurL B (dLc it g bYes e vs) ε (xs.map h) := by
  have := pLc (p := fun _ => true) (h := h) (c := bYes) hi (fun x m => by
    obtain ⟨ε', a, b⟩ := hx x m
    exact ⟨ε', a, bYes_pure, fun _ => b⟩) hl
  rwa [List.filter_eq_self.mpr (fun _ _ => rfl)] at this
theorem piZip (ha : PurE B a ε (.tup xs)) (hb : PurE B b ε (.tup ys)) (hu : (pairs xs ys).all unt = true) : PurI B (iZipD a b) ε (pairs xs ys) := fun S hS => by
  obtain ⟨E, e1⟩ := ha S hS
  obtain ⟨E2, e2⟩ := hb (S ++ E) (pre_app hS)
  exact ⟨E ++ E2, _, by unfold iZipD; rw [e1, x_bind, e2, x_bind]; simp [hu], fun _ _ => rfl⟩
theorem PurE.up {B' : Sto} {d : D} (h : PurE B a ε d) (hB : B <+: B') : PurE B' a ε d := fun S hS => h S (hB.trans hS)
theorem PurR.up {B' : Sto} {f : Sto → R D} {d : D} (h : PurR B f d) (hB : B <+: B') : PurR B' f d := fun S hS => h S (hB.trans hS)
end
end DL

set_option Elab.async false
set_option linter.all false
set_option maxRecDepth 100000
set_option maxHeartbeats 1000000
namespace DL
open PySem L2
variable {B : Sto}
theorem szs_take (rs : List Rule) (i : Nat) : szs (rs.take i) = (szs rs).take i := by unfold szs; rw [List.map_take]
structure RsLaw (rs : List Rule) : Prop where
  r : RsOk rs
  len : rs.length ≤ 2
  dep : ∀ r ∈ rs, dep r.b ≤ 2
  sz : ∀ r ∈ rs, r.ns.length ≤ 2 ∧ r.hs.length ≤ 2
end DL

set_option Elab.async false
set_option linter.all false
set_option maxRecDepth 100000
set_option maxHeartbeats 1000000
namespace DL
open PySem L2
structure Stt where
  kept : Str → Int
  asked : List Int
  many : Nat
  spoken : List Int
  marks : List D
  cells : List Int
abbrev Thk := Stt → Int × Stt
def markA (v : Int) : D := .tup [.str "ask", .int v]
def markR (x : Str) (v : Int) : D := .tup [.str "read", .str x, .int v]
def markW (x : Str) (v : Int) : D := .tup [.str "write", .str x, .int v]
def markS (v : Int) : D := .tup [.str "say", .int v]
def tAskd : Thk := fun st => let a := (st.asked[st.many]?).getD 0; (a, { st with many := st.many + 1, marks := st.marks ++ [markA a] })
def tRead (x : Str) : Thk := fun st => (st.kept x, { st with marks := st.marks ++ [markR x (st.kept x)] })
def tWrt (x : Str) (v : Int) : Thk := fun st => (v, { st with kept := fun y => if y = x then v else st.kept y, marks := st.marks ++ [markW x v] })
def tSayd (v : Int) : Thk := fun st => (v, { st with spoken := st.spoken ++ [v], marks := st.marks ++ [markS v] })
structure Pl where
  run : Nat
  w : Nat
  kept : Nat
  spoken : Nat
  marks : Nat
  cells : Nat
  asked : Nat
  ans : Nat
  rules : D
def runF (L : Pl) : List (Str × D) := [("rules", L.rules), ("world", .ref L.w), ("answers", .ref L.ans), ("place", .int 0), ("wanted", .non), ("cells", .ref L.cells)]
def wldF (L : Pl) (many : Nat) : List (Str × D) := [("kept", .ref L.kept), ("asked", .ref L.asked), ("many", .int many), ("spoken", .ref L.spoken), ("marks", .ref L.marks)]
def keptD (k : Str → Int) : List (Key × D) := abcd.map fun x => (.inr x, .int (k x))
def Pl.mut (L : Pl) : List Nat := [L.w, L.kept, L.spoken, L.marks, L.cells]
structure Rep (L : Pl) (S : Sto) (st : Stt) : Prop where
  run : S[L.run]? = some (.ins "Run" (runF L))
  w : S[L.w]? = some (.ins "World" (wldF L st.many))
  kept : S[L.kept]? = some (.dct (keptD st.kept))
  spoken : S[L.spoken]? = some (.lst (st.spoken.map .int))
  marks : S[L.marks]? = some (.lst st.marks)
  cells : S[L.cells]? = some (.lst (st.cells.map .int))
  asked : S[L.asked]? = some (.lst (st.asked.map .int))
structure Frm (L : Pl) (S S' : Sto) : Prop where
  len : S.length ≤ S'.length
  keep : ∀ n o, n ∉ L.mut → S[n]? = some o → S'[n]? = some o
theorem Frm.refl {L : Pl} {S : Sto} : Frm L S S := ⟨Nat.le_refl _, fun _ _ _ h => h⟩
theorem Frm.trans {L : Pl} {S S' S'' : Sto} (a : Frm L S S') (b : Frm L S' S'') : Frm L S S'' := ⟨Nat.le_trans a.len b.len, fun n o h e => b.keep n o h (a.keep n o h e)⟩
theorem Frm.set {L : Pl} {S : Sto} {n : Nat} {o : O} (h : n ∈ L.mut) : Frm L S (S.set n o) := ⟨by simp, fun m u hm e => by
  have : n ≠ m := fun q => hm (q ▸ h)
  rw [List.getElem?_set_ne this]
  exact e⟩
theorem Frm.app {L : Pl} {S E : Sto} : Frm L S (S ++ E) := ⟨by simp, fun n o _ e => by
  rw [List.getElem?_append_left (List.getElem?_eq_some_iff.mp e).1]
  exact e⟩
structure Apart (L : Pl) : Prop where
  nd : L.mut.Nodup
  run : L.run ∉ L.mut
  asked : L.asked ∉ L.mut
structure Fits (st : Stt) : Prop where
  m : st.marks.length < 100000
  s : st.spoken.length < 100000
  c : st.cells.length < 100000
structure Lst (a b : Stt) : Prop where
  m : a.marks.length ≤ b.marks.length
  s : a.spoken.length ≤ b.spoken.length
  c : a.cells.length ≤ b.cells.length
theorem Lst.refl {a : Stt} : Lst a a := ⟨Nat.le_refl _, Nat.le_refl _, Nat.le_refl _⟩
theorem Lst.trans {a b c : Stt} (x : Lst a b) (y : Lst b c) : Lst a c := ⟨Nat.le_trans x.m y.m, Nat.le_trans x.s y.s, Nat.le_trans x.c y.c⟩
theorem Fits.of {a b : Stt} (x : Lst a b) (f : Fits b) : Fits a := ⟨Nat.lt_of_le_of_lt x.m f.m, Nat.lt_of_le_of_lt x.s f.s, Nat.lt_of_le_of_lt x.c f.c⟩
def ZE (a : Den) (ε : Env) (d : D) : Prop := ∀ S, a ε S = .ok d S
def ZB (a : DenB) (ε : Env) (b : Bool) : Prop := ∀ S, a ε S = .ok b S
section
variable {o : Op} {a b : Den} {ba bb : DenB} {ε ε' : Env} {d e x : D} {i : Nat} {u v w : SDen} {g : GDen} {ds : List D} {t : Bool} {p q : Str} {S : Sto}
theorem zC : ZE (dC d) ε d := fun _ => rfl
theorem zV (h : ε[i]? = some (some d) := by rfl) : ZE (dVar i) ε d := fun _ => x_Var h
theorem zG {j : Int} (ha : ZE a ε (.tup ds)) (h : atI ds j = some x := by rfl) : ZE (dBin oGet a (dC (.int j))) ε x := fun S => by simp [ha S, h]
theorem zEqS (ha : ZE a ε (.str p)) (h : decide (p = q) = t := by decide +kernel) : ZB (dTest (dBin oEq a (dC (.str q)))) ε t := fun S => by
  refine x_Test ?_
  rw [x_Bin, ha S, x_bind, x_C, x_bind, x_eqS, h]
theorem zIn {qs : List Str} {r : DenA} (ha : ZE a ε (.str p)) (hr : ∀ S, r ε S = .ok (qs.map D.str) S) (hl : qs.length ≤ 1000 := by simp) (h : decide (p ∈ qs) = t := by decide +kernel) : ZB (dTest (dBin oIn a (dTup r))) ε t := fun S => by
  refine x_Test ?_
  have e : inD S (.str p) (.tup (qs.map D.str)) = some (decide (p ∈ qs)) := by
    unfold inD
    simp only [items_tup]
    rw [if_pos (show flatD (.str p) = true ∧ (qs.map D.str).all flatD = true from ⟨rfl, by rw [List.all_map]; exact List.all_eq_true.mpr fun _ _ => rfl⟩), List.any_map]
    congr 1
    rw [Bool.eq_iff_iff, List.any_eq_true, decide_eq_true_iff]
    constructor
    · rintro ⟨y, hy, e⟩
      have : y = p := by simpa [eqF] using e
      rw [← this]
      exact hy
    · intro hy
      exact ⟨p, hy, by simp [eqF]⟩
  rw [x_Bin, ha S, x_bind, x_Tup, hr S, x_bind, x_mkTup (by simpa using hl), x_bind]
  unfold oIn
  rw [e, h]
end
section
variable {o : Op} {a b : Den} {ba bb : DenB} {ε ε' : Env} {d e x : D} {i : Nat} {u v w : SDen} {g : GDen} {ds : List D} {t : Bool} {p q : Str} {S S1 S2 : Sto} {r : R Fl} {rd : R D} {ar : DenA} {f c m : Str} {n np nN : Nat} {fs : List (Str × D)} {F : Fn}
theorem eZ (h : ZE a ε d) : a ε S = .ok d S := h S
theorem eZB (h : ZB ba ε t) : ba ε S = .ok t S := h S
theorem run_rt {b : SDen} (h : b (ds.map some ++ List.replicate (nN - np) none) S = .ok (.rt d) S1) (hl : ds.length = np := by rfl) : runFn np nN b ds S = .ok d S1 := by rw [runFn_fin hl, h]; rfl
theorem eLet (ha : a ε S = .ok d S1) (k : w ε' S1 = r) (hg : ∀ S, g d ε S = some ε' := by intro _; rfl) : sSeq (sAsg a g) w ε S = r := by
  rw [x_Seq, x_Asg, ha, x_sE]
  simp only [hg, x_sN]
  exact k
theorem eAsg (ha : a ε S = .ok d S1) (hg : ∀ S, g d ε S = some ε' := by intro _; rfl) : sAsg a g ε S = .ok (.nx ε') S1 := by
  rw [x_Asg, ha, x_sE]
  simp only [hg]
theorem eSkip (h : ba ε S = .ok false S1) (k : w ε S1 = r) : sSeq (sIf ba u sNil) w ε S = r := by
  rw [x_Seq, x_sIf, h, x_sE, if_neg Bool.false_ne_true, x_sNil, x_sN]
  exact k
theorem eTake (h : ba ε S = .ok true S1) (k : u ε S1 = .ok (.rt d) S2) : sSeq (sIf ba u v) w ε S = .ok (.rt d) S2 := by
  rw [x_Seq, x_sIf, h, x_sE, if_pos rfl, k, x_sNr]
theorem eIfT (h : ba ε S = .ok true S1) (k : u ε S1 = r) : sIf ba u v ε S = r := by
  rw [x_sIf, h, x_sE, if_pos rfl]
  exact k
theorem eIfF (h : ba ε S = .ok false S1) (k : v ε S1 = r) : sIf ba u v ε S = r := by
  rw [x_sIf, h, x_sE, if_neg Bool.false_ne_true]
  exact k
theorem eSeq (h : u ε S = .ok (.nx ε') S1) (k : w ε' S1 = r) : sSeq u w ε S = r := by
  rw [x_Seq, h, x_sN]
  exact k
theorem eRet (h : a ε S = .ok d S1) : sRet a ε S = .ok (.rt d) S1 := by rw [x_Ret, h]; rfl
theorem eExpr (h : a ε S = .ok d S1) : sExpr a ε S = .ok (.nx ε) S1 := by rw [x_Expr, h]; rfl
theorem eBin (ha : a ε S = .ok d S1) (hb : b ε S1 = .ok e S2) (k : o d e S2 = rd) : dBin o a b ε S = rd := by
  rw [x_Bin, ha, x_bind, hb, x_bind]
  exact k
theorem eTest (ha : a ε S = .ok (.bl t) S1) : dTest a ε S = .ok t S1 := by unfold dTest; rw [ha]; rfl
theorem eCond (ha : ba ε S = .ok t S1) (k : (if t = true then a ε S1 else b ε S1) = rd) : dIf ba a b ε S = rd := by
  rw [x_If, ha, x_bind]
  exact k
theorem eNeg {j : Int} (ha : a ε S = .ok (.int j) S1) : dNeg a ε S = .ok (.int (-j)) S1 := by unfold dNeg; rw [ha]; rfl
theorem eNil : dNil ε S = .ok [] S := rfl
theorem eCons (ha : a ε S = .ok d S1) (hr : ar ε S1 = .ok ds S2) : dCons a ar ε S = .ok (d :: ds) S2 := by
  rw [x_Cons, ha, x_bind, hr, x_bind]
theorem eTup (hr : ar ε S = .ok ds S1) (h : ds.length ≤ 1000 := by simp) : dTup ar ε S = .ok (.tup ds) S1 := by
  rw [x_Tup, hr, x_bind, x_mkTup h]
theorem eFn (hr : ar ε S = .ok ds S1) (k : F ds S1 = rd) : dFn F ar ε S = rd := by
  rw [x_Fn, hr, x_bind]
  exact k
theorem eFld (ha : a ε S = .ok (.ref n) S1) (hn : S1[n]? = some (.ins c fs)) (hf : fs.lookup f = some x) : dFld f a ε S = .ok x S1 := by
  unfold dFld
  rw [ha, x_bind]
  simp only [insAt, hn, hf]
theorem eSetF (ha : a ε S = .ok x S1) (hb : b ε S1 = .ok (.ref n) S2) (hn : S2[n]? = some (.ins c fs)) (hl : fs.length < 1000) : sFldD f a b ε S = .ok (.nx ε) (S2.set n (.ins c (putFD f x fs))) := by
  unfold sFldD
  rw [ha, x_sE, hb, x_sE]
  simp only [insAt, hn]
  rw [if_pos hl]
theorem eApp (ha : a ε S = .ok (.ref n) S) (hn : S[n]? = some (.lst ds)) (hb : b ε S = .ok x S) (hl : ds.length < big) : dAppend a b ε S = .ok .non (S.set n (.lst (ds ++ [x]))) := by
  unfold dAppend
  rw [ha, x_bind]
  simp only [lstAt, hn, hb, x_bind]
  rw [if_pos hl]
theorem eMeth (ha : a ε S = .ok (.ref n) S1) (hn : S1[n]? = some (.ins c fs)) (hf : fs.lookup m = none) (hr : ar ε S1 = .ok ds S2) (k : F (.ref n :: ds) S2 = rd) (hl : ds.length + 1 = np := by rfl) : dMeth c m np F a ar ε S = rd := by
  unfold dMeth
  rw [ha, x_bind]
  simp only [insAt, hn]
  rw [if_pos (by simp [hf]), hr, x_bind, if_pos hl]
  exact k
theorem eGetD {k : Key} {kvs : List (Key × D)} (hn : S[n]? = some (.dct kvs)) (hk : keyD e = some k) (hv : valD kvs k = some x) : oGet (.ref n) e S = .ok x S := by
  unfold oGet
  simp only [dctAt, hn, hk, hv]
theorem eGetL {j : Int} (hn : S[n]? = some (.lst ds)) (hv : atI ds j = some x) : oGet (.ref n) (.int j) S = .ok x S := x_get (ds := ds) (by simp only [dctAt, hn]) (by simp only [items, hn]) hv
theorem ePutD {k : Key} {kvs : List (Key × D)} (hc : a ε S = .ok x S1) (ho : b ε S1 = .ok (.ref n) S1) {kk : Den} (hk : kk ε S1 = .ok e S1) (hn : S1[n]? = some (.dct kvs)) (hj : keyD e = some k) (hl : kvs.length < big) : sPut b kk a ε S = .ok (.nx ε) (S1.set n (.dct (putD kvs k x))) := by
  unfold sPut
  rw [hc, x_sE, ho, x_sE, hk, x_sE]
  simp only [dctAt, hn, hj]
  rw [if_pos hl]
end
section
variable {L : Pl} {S : Sto} {st : Stt}
theorem big5 {n : Nat} (h : n < 100000) : n < big := Nat.lt_trans h (by decide)
theorem kept_val {k : Str → Int} {x : Str} (hx : x ∈ abcd) : valD (keptD k) (.inr x) = some (.int (k x)) := by
  simp only [abcd, List.mem_cons, List.not_mem_nil, or_false] at hx
  rcases hx with rfl | rfl | rfl | rfl <;> rfl
theorem kept_put {k : Str → Int} {x : Str} {v : Int} (hx : x ∈ abcd) : putD (keptD k) (.inr x) (.int v) = keptD (fun y => if y = x then v else k y) := by
  simp only [abcd, List.mem_cons, List.not_mem_nil, or_false] at hx
  rcases hx with rfl | rfl | rfl | rfl <;> rfl
theorem gset {α : Type} {l : List α} {i j : Nat} {x y : α} (h : l[j]? = some y) (hn : i ≠ j) : (l.set i x)[j]? = some y := by rw [List.getElem?_set_ne hn]; exact h
theorem gsame {α : Type} {l : List α} {i : Nat} {x y : α} (h : l[i]? = some y) : (l.set i x)[i]? = some x := by
  rw [List.getElem?_set_self (List.getElem?_eq_some_iff.mp h).1]
structure Nes (L : Pl) : Prop where
  a : L.w ≠ L.kept
  b : L.w ≠ L.spoken
  c : L.w ≠ L.marks
  d : L.w ≠ L.cells
  e : L.kept ≠ L.spoken
  f : L.kept ≠ L.marks
  g : L.kept ≠ L.cells
  h : L.spoken ≠ L.marks
  i : L.spoken ≠ L.cells
  j : L.marks ≠ L.cells
  ra : L.w ≠ L.run
  rb : L.kept ≠ L.run
  rc : L.spoken ≠ L.run
  rd : L.marks ≠ L.run
  re : L.cells ≠ L.run
  qa : L.w ≠ L.asked
  qb : L.kept ≠ L.asked
  qc : L.spoken ≠ L.asked
  qd : L.marks ≠ L.asked
  qe : L.cells ≠ L.asked
theorem Apart.nes (ap : Apart L) : Nes L := by
  have nd := ap.nd
  have nr := ap.run
  have na := ap.asked
  simp only [Pl.mut, List.nodup_cons, List.mem_cons, List.not_mem_nil, or_false, not_or] at nd nr na
  obtain ⟨⟨a, b, c, d⟩, ⟨e, f, g⟩, ⟨h, i⟩, j, _⟩ := nd
  obtain ⟨r1, r2, r3, r4, r5⟩ := nr
  obtain ⟨q1, q2, q3, q4, q5⟩ := na
  exact ⟨a, b, c, d, e, f, g, h, i, j, Ne.symm r1, Ne.symm r2, Ne.symm r3, Ne.symm r4, Ne.symm r5, Ne.symm q1, Ne.symm q2, Ne.symm q3, Ne.symm q4, Ne.symm q5⟩
theorem Rep.setMarks (R : Rep L S st) (N : Nes L) (ms : List D) : Rep L (S.set L.marks (.lst ms)) { st with marks := ms } :=
  ⟨gset R.run N.rd, gset R.w N.c.symm, gset R.kept N.f.symm, gset R.spoken N.h.symm, gsame R.marks, gset R.cells N.j, gset R.asked N.qd⟩
theorem Rep.setSpoken (R : Rep L S st) (N : Nes L) (ms : List Int) : Rep L (S.set L.spoken (.lst (ms.map .int))) { st with spoken := ms } :=
  ⟨gset R.run N.rc, gset R.w N.b.symm, gset R.kept N.e.symm, gsame R.spoken, gset R.marks N.h, gset R.cells N.i, gset R.asked N.qc⟩
theorem Rep.setCells (R : Rep L S st) (N : Nes L) (ms : List Int) : Rep L (S.set L.cells (.lst (ms.map .int))) { st with cells := ms } :=
  ⟨gset R.run N.re, gset R.w N.d.symm, gset R.kept N.g.symm, gset R.spoken N.i.symm, gset R.marks N.j.symm, gsame R.cells, gset R.asked N.qe⟩
theorem Rep.setKept (R : Rep L S st) (N : Nes L) (k : Str → Int) : Rep L (S.set L.kept (.dct (keptD k))) { st with kept := k } :=
  ⟨gset R.run N.rb, gset R.w N.a.symm, gsame R.kept, gset R.spoken N.e, gset R.marks N.f, gset R.cells N.g, gset R.asked N.qb⟩
theorem Rep.setMany (R : Rep L S st) (N : Nes L) (m : Nat) : Rep L (S.set L.w (.ins "World" (wldF L m))) { st with many := m } :=
  ⟨gset R.run N.ra, gsame R.w, gset R.kept N.a, gset R.spoken N.b, gset R.marks N.c, gset R.cells N.d, gset R.asked N.qa⟩
theorem Rep.app (R : Rep L S st) (E : Sto) : Rep L (S ++ E) st := by
  have g : ∀ {n o}, S[n]? = some o → (S ++ E)[n]? = some o := fun {n o} e => by
    rw [List.getElem?_append_left (List.getElem?_eq_some_iff.mp e).1]
    exact e
  exact ⟨g R.run, g R.w, g R.kept, g R.spoken, g R.marks, g R.cells, g R.asked⟩
theorem touched_read (n : Nat) {x : Str} (ap : Apart L) (R : Rep L S st) (hf : Fits (tRead x st).2) (hx : x ∈ abcd) :
    ∃ S', csem (n + 2) .m_World_touched [.ref L.w, .tup [.str "read", .str x]] S = .ok (.int (tRead x st).1) S' ∧ Frm L S S' ∧ Rep L S' (tRead x st).2 := by
  have hm := hf.m
  simp only [tRead, List.length_append, List.length_singleton] at hm
  refine ⟨S.set L.marks (.lst (st.marks ++ [markR x (st.kept x)])), ?_, Frm.set (by simp [Pl.mut]), R.setMarks ap.nes _⟩
  rw [cs_m_World_touched]
  refine run_rt ?_
  unfold b_m_World_touched
  refine eSeq (eIfF (eZB (zEqS (zG zV))) (eIfT (eZB (zEqS (zG zV))) (eAsg (eBin (eFld (eZ zV) R.w rfl) (eZ (zG zV)) (eGetD R.kept rfl (kept_val hx)))))) ?_
  refine eSkip (eZB (zEqS (zG zV))) (eSkip (eZB (zEqS (zG zV))) (eSeq (eExpr (eApp (eFld (eZ zV) R.w rfl) R.marks (eCond (eZB (zIn (qs := ["write", "say"]) (t := false) (zG zV) (fun _ => rfl))) ?_) (big5 (by omega)))) (eRet (eZ zV))))
  rw [if_neg Bool.false_ne_true]
  rfl
theorem touched_write (n : Nat) {x : Str} {v : Int} (ap : Apart L) (R : Rep L S st) (hf : Fits (tWrt x v st).2) (hx : x ∈ abcd) :
    ∃ S', csem (n + 2) .m_World_touched [.ref L.w, .tup [.str "write", .str x, .int v]] S = .ok (.int (tWrt x v st).1) S' ∧ Frm L S S' ∧ Rep L S' (tWrt x v st).2 := by
  have hm := hf.m
  simp only [tWrt, List.length_append, List.length_singleton] at hm
  have R1 := R.setKept ap.nes fun y => if y = x then v else st.kept y
  refine ⟨(S.set L.kept (.dct (keptD fun y => if y = x then v else st.kept y))).set L.marks (.lst (st.marks ++ [markW x v])), ?_, (Frm.set (by simp [Pl.mut])).trans (Frm.set (by simp [Pl.mut])), R1.setMarks ap.nes _⟩
  rw [cs_m_World_touched]
  refine run_rt ?_
  unfold b_m_World_touched
  refine eSeq (eIfF (eZB (zEqS (zG zV))) (eIfF (eZB (zEqS (zG zV))) (eAsg (eBin (eZ zV) (eNeg (eZ zC)) rfl)))) ?_
  have this := ePutD (a := dVar 2) (b := dFld "kept" (dVar 0)) (kk := dBin oGet (dVar 1) (dC (.int 1))) (ε := [some (D.ref L.w), some (.tup [.str "write", .str x, .int v]), some (.int v)]) (S := S) (eZ zV) (eFld (eZ zV) R.w rfl) (eZ (zG zV)) R.kept rfl (show 4 < big by decide)
  rw [kept_put hx] at this
  refine eSeq (eIfT (eZB (zEqS (zG zV))) this) ?_
  refine eSkip (eZB (zEqS (zG zV))) (eSeq (eExpr (eApp (eFld (eZ zV) R1.w rfl) R1.marks (eCond (eZB (zIn (qs := ["write", "say"]) (t := true) (zG zV) (fun _ => rfl))) ?_) (big5 (show st.marks.length < 100000 by omega)))) (eRet (eZ zV)))
  rw [if_pos rfl]
  rfl
theorem touched_say (n : Nat) {v : Int} (ap : Apart L) (R : Rep L S st) (hf : Fits (tSayd v st).2) :
    ∃ S', csem (n + 2) .m_World_touched [.ref L.w, .tup [.str "say", .int v]] S = .ok (.int (tSayd v st).1) S' ∧ Frm L S S' ∧ Rep L S' (tSayd v st).2 := by
  have hm := hf.m
  have hs := hf.s
  simp only [tSayd, List.length_append, List.length_singleton] at hm hs
  have R1 := R.setSpoken ap.nes (st.spoken ++ [v])
  refine ⟨(S.set L.spoken (.lst ((st.spoken ++ [v]).map .int))).set L.marks (.lst (st.marks ++ [markS v])), ?_, (Frm.set (by simp [Pl.mut])).trans (Frm.set (by simp [Pl.mut])), R1.setMarks ap.nes _⟩
  rw [cs_m_World_touched]
  refine run_rt ?_
  unfold b_m_World_touched
  refine eSeq (eIfF (eZB (zEqS (zG zV))) (eIfF (eZB (zEqS (zG zV))) (eAsg (eBin (eZ zV) (eNeg (eZ zC)) rfl)))) ?_
  refine eSkip (eZB (zEqS (zG zV))) (eSeq (eIfT (eZB (zEqS (zG zV))) (eExpr (d := .non) (S1 := S.set L.spoken (.lst ((st.spoken ++ [v]).map .int))) ?_)) (eSeq (eExpr (eApp (eFld (eZ zV) R1.w rfl) R1.marks (eCond (eZB (zIn (qs := ["write", "say"]) (t := true) (zG zV) (fun _ => rfl))) ?_) (big5 (show st.marks.length < 100000 by omega)))) (eRet (eZ zV))))
  · rw [List.map_append]
    exact eApp (eFld (eZ zV) R.w rfl) R.spoken (eZ zV) (big5 (by rw [List.length_map]; omega))
  · rw [if_pos rfl]
    rfl
theorem touched_ask (n : Nat) (ap : Apart L) (R : Rep L S st) (hf : Fits (tAskd st).2) :
    ∃ S', csem (n + 2) .m_World_touched [.ref L.w, .tup [.str "ask"]] S = .ok (.int (tAskd st).1) S' ∧ Frm L S S' ∧ Rep L S' (tAskd st).2 := by
  have hm := hf.m
  simp only [tAskd, List.length_append, List.length_singleton] at hm
  have R1 := R.setMany ap.nes (st.many + 1)
  refine ⟨(S.set L.w (.ins "World" (wldF L (st.many + 1)))).set L.marks (.lst (st.marks ++ [markA ((st.asked[st.many]?).getD 0)])), ?_, (Frm.set (by simp [Pl.mut])).trans (Frm.set (by simp [Pl.mut])), R1.setMarks ap.nes _⟩
  rw [cs_m_World_touched]
  refine run_rt ?_
  unfold b_m_World_touched
  have e0 : dFld "many" (dVar 0) (List.map some [D.ref L.w, .tup [.str "ask"]] ++ List.replicate (3 - 2) none) S = .ok (.int st.many) S := eFld (eZ zV) R.w rfl
  have e1 : dFld "asked" (dVar 0) (List.map some [D.ref L.w, .tup [.str "ask"]] ++ List.replicate (3 - 2) none) S = .ok (.ref L.asked) S := eFld (eZ zV) R.w rfl
  have el : fLen [.ref L.asked] S = .ok (.int st.asked.length) S := by
    unfold fLen
    simp only [items, R.asked, List.length_map]
  have e4 : sFldD "many" (dBin oAdd (dFld "many" (dVar 0)) (dC (.int 1))) (dVar 0) [some (D.ref L.w), some (.tup [.str "ask"]), some (.int ((st.asked[st.many]?).getD 0))] S = .ok (.nx [some (D.ref L.w), some (.tup [.str "ask"]), some (.int ((st.asked[st.many]?).getD 0))]) (S.set L.w (.ins "World" (wldF L (st.many + 1)))) :=
    eSetF (eBin (eFld (eZ zV) R.w rfl) (eZ zC) (x_addI (i := st.many) (j := 1))) (eZ zV) R.w (by show 5 < 1000; decide)
  refine eSeq (eIfT (eZB (zEqS (zG zV))) (eLet (d := .int ((st.asked[st.many]?).getD 0)) (S1 := S) (eCond (S1 := S) (eTest (t := decide (st.many < st.asked.length)) (eBin e0 (eFn (eCons e1 eNil) el) ?_)) ?_) e4)) ?_
  · rw [x_ltI]
    congr 2
    simp
  · by_cases h : st.many < st.asked.length
    · rw [if_pos (by simpa using h)]
      refine eBin e1 e0 (eGetL R.asked ?_)
      rw [atI_in (by omega) (by simpa using h), List.getElem?_map, Int.toNat_natCast, List.getElem?_eq_getElem h]
      rfl
    · rw [if_neg (by simpa using h), List.getElem?_eq_none (by omega)]
      rfl
  refine eSkip (eZB (zEqS (zG zV))) (eSkip (eZB (zEqS (zG zV))) (eSeq (eExpr (eApp (eFld (eZ zV) R1.w rfl) R1.marks (eCond (eZB (zIn (qs := ["write", "say"]) (t := false) (zG zV) (fun _ => rfl))) ?_) (big5 (show st.marks.length < 100000 by omega)))) (eRet (eZ zV))))
  rw [if_neg Bool.false_ne_true]
  rfl
theorem touch_sem (n : Nat) {mk : D} {v : Int} {S' : Sto} (R : Rep L S st) (h : csem (n + 2) .m_World_touched [.ref L.w, mk] S = .ok (.int v) S') : csem (n + 3) .m_Run_touch [.ref L.run, mk] S = .ok (.int v) S' := by
  rw [cs_m_Run_touch]
  refine run_rt ?_
  unfold b_m_Run_touch
  exact eTake (eTest (t := true) (eBin (eFld (eZ zV) R.run rfl) (eZ zC) rfl)) (eRet (eMeth (eFld (eZ zV) R.run rfl) R.w rfl (eCons (eZ zV) eNil) h))
end
end DL

set_option Elab.async false
set_option linter.all false
set_option maxRecDepth 100000
set_option maxHeartbeats 1000000
namespace DL
open PySem L2
inductive EV where
  | int (v : Int) | cell (i : Nat) | th (t : Thk)
abbrev Ev := Str → Option EV
abbrev RS := List Int → List Thk → Thk
def putE (x : Str) (v : EV) (env : Ev) : Ev := fun y => if y = x then some v else env y
def envOf (xs : List (Str × EV)) : Ev := fun y => xs.lookup y
def iterT (t : Thk) : Nat → Stt → Stt
  | 0, st => st
  | n + 1, st => iterT t n (t st).2
def Stt.setC (s : Stt) (i : Nat) (v : Int) : Stt := ⟨s.kept, s.asked, s.many, s.spoken, s.marks, s.cells.set i v⟩
def Stt.push (s : Stt) (v : Int) : Stt := ⟨s.kept, s.asked, s.many, s.spoken, s.marks, s.cells ++ [v]⟩
mutual
def den (rs : List RS) : Deed → Ev → Thk
  | .num i, _ => fun st => (i, st)
  | .nam x, env => fun st => match env x with
    | some (.int v) => (v, st)
    | _ => (0, st)
  | .dod x, env => fun st => match env x with
    | some (.th t) => t st
    | _ => (0, st)
  | .ask, _ => tAskd
  | .rd x, env => fun st => match env x with
    | some (.cell i) => ((st.cells[i]?).getD 0, st)
    | _ => tRead x st
  | .wr x a, env => fun st => match env x with
    | some (.cell i) => ((den rs a env st).1, (den rs a env st).2.setC i (den rs a env st).1)
    | _ => tWrt x (den rs a env st).1 (den rs a env st).2
  | .say a, env => fun st => tSayd (den rs a env st).1 (den rs a env st).2
  | .lt x a b, env => fun st => den rs b (putE x (.int (den rs a env st).1) env) (den rs a env st).2
  | .own x a b, env => fun st => den rs b (putE x (.cell (den rs a env st).2.cells.length) env) ((den rs a env st).2.push (den rs a env st).1)
  | .iff a b c, env => fun st => if (den rs a env st).1 ≠ 0 then den rs b env (den rs a env st).2 else den rs c env (den rs a env st).2
  | .two .thn a b, env => fun st => den rs b env (den rs a env st).2
  | .two .add a b, env => fun st => (((den rs a env st).1 + (den rs b env (den rs a env st).2).1) % 1009, (den rs b env (den rs a env st).2).2)
  | .two .les a b, env => fun st => (if (den rs a env st).1 < (den rs b env (den rs a env st).2).1 then 1 else 0, (den rs b env (den rs a env st).2).2)
  | .two .lop a b, env => fun st => (0, iterT (den rs b env) ((den rs a env st).1 % 4).toNat (den rs a env st).2)
  | .call i ps hs, env => fun st => ((rs[i]?).getD fun _ _ st => (0, st)) (denL rs ps env st).1 (denT rs hs env) (denL rs ps env st).2
def denL (rs : List RS) : List Deed → Ev → Stt → List Int × Stt
  | [], _, st => ([], st)
  | d :: ds, env, st => ((den rs d env st).1 :: (denL rs ds env (den rs d env st).2).1, (denL rs ds env (den rs d env st).2).2)
def denT (rs : List RS) : List Deed → Ev → List Thk
  | [], _ => []
  | d :: ds, env => den rs d env :: denT rs ds env
end
def Grow (t : Thk) : Prop := ∀ st, Lst st (t st).2
def GrowE (env : Ev) : Prop := ∀ x t, env x = some (.th t) → Grow t
def GrowR (rs : List RS) : Prop := ∀ f ∈ rs, ∀ ws ts, (∀ t ∈ ts, Grow t) → Grow (f ws ts)
theorem grow_ask : Grow tAskd := fun st => ⟨by simp [tAskd], by simp [tAskd], by simp [tAskd]⟩
theorem grow_read (x : Str) : Grow (tRead x) := fun st => ⟨by simp [tRead], by simp [tRead], by simp [tRead]⟩
theorem grow_wrt (x : Str) (v : Int) : Grow (tWrt x v) := fun st => ⟨by simp [tWrt], by simp [tWrt], by simp [tWrt]⟩
theorem grow_say (v : Int) : Grow (tSayd v) := fun st => ⟨by simp [tSayd], by simp [tSayd], by simp [tSayd]⟩
theorem GrowE.put {env : Ev} {x : Str} {v : EV} (h : GrowE env) (hv : ∀ t, v = .th t → Grow t) : GrowE (putE x v env) := fun y t e => by
  unfold putE at e
  split at e
  · cases e; exact hv t rfl
  · exact h y t e
theorem grow_iter {t : Thk} (h : Grow t) : ∀ n st, Lst st (iterT t n st)
  | 0, st => Lst.refl
  | n + 1, st => (h st).trans (grow_iter h n _)
mutual
theorem den_grow {rs : List RS} (hr : GrowR rs) : ∀ (d : Deed) {env : Ev}, GrowE env → Grow (den rs d env)
  | .num i, env, h => fun st => by unfold den; exact .refl
  | .nam x, env, h => fun st => by unfold den; split <;> exact .refl
  | .dod x, env, h => fun st => by
    unfold den
    split
    · rename_i t e; exact h x t e st
    · exact .refl
  | .ask, env, h => by unfold den; exact grow_ask
  | .rd x, env, h => fun st => by
    unfold den
    split
    · exact .refl
    · exact grow_read x st
  | .wr x a, env, h => fun st => by
    have ga := den_grow hr a h st
    unfold den
    split
    · exact ga.trans ⟨Nat.le_refl _, Nat.le_refl _, by simp [Stt.setC]⟩
    · exact ga.trans (grow_wrt x _ _)
  | .say a, env, h => fun st => by
    have ga := den_grow hr a h st
    unfold den
    exact ga.trans (grow_say _ _)
  | .lt x a b, env, h => fun st => by
    have ga := den_grow hr a h st
    have gb := den_grow hr b (h.put (x := x) (v := .int (den rs a env st).1) fun t e => by cases e) (den rs a env st).2
    unfold den
    exact ga.trans gb
  | .own x a b, env, h => fun st => by
    have ga := den_grow hr a h st
    have gb := den_grow hr b (h.put (x := x) (v := .cell (den rs a env st).2.cells.length) fun t e => by cases e) ((den rs a env st).2.push (den rs a env st).1)
    unfold den
    exact (ga.trans (⟨Nat.le_refl _, Nat.le_refl _, by simp [Stt.push]⟩ : Lst (den rs a env st).2 ((den rs a env st).2.push (den rs a env st).1))).trans gb
  | .iff a b c, env, h => fun st => by
    have ga := den_grow hr a h st
    unfold den
    split
    · exact ga.trans (den_grow hr b h _)
    · exact ga.trans (den_grow hr c h _)
  | .two .thn a b, env, h => fun st => by
    unfold den
    exact (den_grow hr a h st).trans (den_grow hr b h _)
  | .two .add a b, env, h => fun st => by
    unfold den
    exact (den_grow hr a h st).trans (den_grow hr b h _)
  | .two .les a b, env, h => fun st => by
    unfold den
    exact (den_grow hr a h st).trans (den_grow hr b h _)
  | .two .lop a b, env, h => fun st => by
    unfold den
    exact (den_grow hr a h st).trans (grow_iter (den_grow hr b h) _ _)
  | .call i ps hs, env, h => fun st => by
    unfold den
    refine (denL_grow hr ps h st).trans ?_
    cases e : rs[i]? with
    | none => exact .refl
    | some f => exact hr f (List.mem_of_getElem? e) _ _ (denT_grow hr hs h) _
theorem denL_grow {rs : List RS} (hr : GrowR rs) : ∀ (ds : List Deed) {env : Ev}, GrowE env → ∀ st, Lst st (denL rs ds env st).2
  | [], env, h, st => by unfold denL; exact .refl
  | d :: ds, env, h, st => by
    unfold denL
    exact (den_grow hr d h st).trans (denL_grow hr ds h _)
theorem denT_grow {rs : List RS} (hr : GrowR rs) : ∀ (ds : List Deed) {env : Ev}, GrowE env → ∀ t ∈ denT rs ds env, Grow t
  | [], env, h, t, m => by unfold denT at m; cases m
  | d :: ds, env, h, t, m => by
    unfold denT at m
    rcases List.mem_cons.mp m with e | m
    · rw [e]; exact den_grow hr d h
    · exact denT_grow hr ds h t m
end
def Impl (L : Pl) (S0 : Sto) (c : Nat) (t : Thk) (p : D) (r m : Nat) : Prop :=
  ∀ n, m ≤ n → ∀ S st, Frm L S0 S → Rep L S st → c ≤ st.cells.length → Fits (t st).2 → ∃ S', csem n .m_Run_worth [.ref L.run, p, .ref r] S = .ok (.int (t st).1) S' ∧ Frm L S S' ∧ Rep L S' (t st).2
theorem Impl.up {L : Pl} {S S' : Sto} {c c' : Nat} {t : Thk} {p : D} {r m m' : Nat} (h : Impl L S c t p r m) (f : Frm L S S') (hc : c ≤ c') (hm : m ≤ m') : Impl L S' c' t p r m' :=
  fun n hn S1 st f1 R k fi => h n (Nat.le_trans hm hn) S1 st (f.trans f1) R (Nat.le_trans hc k) fi
def EvOk (L : Pl) (S : Sto) (c m : Nat) (x : Str) (v : EV) (o : Option D) : Prop := match v with
  | .int v => o = some (.int v) ∧ kd x = 1
  | .cell i => o = some (.int (i : Int)) ∧ kd x = 2 ∧ i < c
  | .th t => (∃ p r, o = some (.tup [p, .ref r]) ∧ Impl L S c t p r m) ∧ kd x = 3
structure EnvOk (L : Pl) (S : Sto) (c r m b : Nat) (env : Ev) (K : List Str) : Prop where
  d : ∃ kvs, S[r]? = some (.dct kvs) ∧ kvs.length ≤ b ∧ ∀ x, match env x with
    | none => valD kvs (.inr x) = none
    | some v => EvOk L S c m x v (valD kvs (.inr x))
  r : r ∉ L.mut
  k : ∀ x ∈ K, env x ≠ none
theorem EvOk.up {L : Pl} {S S' : Sto} {c c' m : Nat} {x : Str} {v : EV} {o : Option D} (h : EvOk L S c m x v o) (f : Frm L S S') (hc : c ≤ c') : EvOk L S' c' m x v o := by
  cases v with
  | int v => exact h
  | cell i => exact ⟨h.1, h.2.1, Nat.lt_of_lt_of_le h.2.2 hc⟩
  | th t =>
    obtain ⟨⟨p, r, e, i⟩, k⟩ := h
    exact ⟨⟨p, r, e, i.up f hc (Nat.le_refl _)⟩, k⟩
theorem EnvOk.up {L : Pl} {S S' : Sto} {c c' r m b : Nat} {env : Ev} {K : List Str} (h : EnvOk L S c r m b env K) (f : Frm L S S') (hc : c ≤ c') : EnvOk L S' c' r m b env K := by
  obtain ⟨⟨kvs, e, hl, hx⟩, hr, hk⟩ := h
  refine ⟨⟨kvs, f.keep _ _ hr e, hl, fun x => ?_⟩, hr, hk⟩
  have := hx x
  cases q : env x with
  | none => rw [q] at this; exact this
  | some v => rw [q] at this; exact this.up f hc
end DL

set_option Elab.async false
set_option linter.all false
set_option maxRecDepth 100000
set_option maxHeartbeats 1000000
namespace DL
open PySem L2
theorem valD_put {κ : Type} [DecidableEq κ] (k : κ) (v : D) (k' : κ) : ∀ kvs : List (κ × D), valD (putD kvs k v) k' = if k' = k then some v else valD kvs k' := by
  intro kvs
  unfold putD
  split
  · rename_i h
    unfold valD
    induction kvs with
    | nil => simp at h
    | cons a r ih =>
      obtain ⟨ka, va⟩ := a
      by_cases e : ka = k
      · subst e
        by_cases e2 : k' = ka
        · subst e2; simp
        · have e3 : ¬ ka = k' := fun q => e2 q.symm
          simp only [List.map_cons, if_true, List.find?_cons, e3, e2, decide_false, if_false]
          by_cases hr : (r.any fun kv => decide (kv.1 = ka)) = true
          · rw [ih hr, if_neg e2]
          · have : r.map (fun kv => if kv.1 = ka then (kv.1, v) else kv) = r := by
              refine (List.map_congr_left (g := id) fun x hx => ?_).trans (List.map_id _)
              rw [if_neg]
              · rfl
              · intro q
                exact hr (List.any_eq_true.mpr ⟨x, hx, decide_eq_true q⟩)
            rw [this]
      · have hr : (r.any fun kv => decide (kv.1 = k)) = true := by simpa [e] using h
        simp only [List.map_cons, e, if_false, List.find?_cons]
        by_cases e2 : ka = k'
        · subst e2
          simp [e]
        · simp only [e2, decide_false]
          exact ih hr
  · rename_i h
    unfold valD
    rw [List.find?_append]
    by_cases e : k' = k
    · subst e
      have : kvs.find? (fun kv => decide (kv.1 = k')) = none := by
        rw [List.find?_eq_none]
        intro x hx q
        exact h (List.any_eq_true.mpr ⟨x, hx, q⟩)
      simp [this]
    · have e3 : ¬ k = k' := fun q => e q.symm
      rw [if_neg e]
      simp [e3]
theorem putD_len {κ : Type} [DecidableEq κ] (k : κ) (v : D) (kvs : List (κ × D)) : (putD kvs k v).length ≤ kvs.length + 1 := by
  unfold putD
  split <;> simp
section
variable {L : Pl} {S S0 : Sto} {st : Stt} {ε : Env} {c r m n b : Nat} {env : Ev} {K : List Str} {x : Str} {t : Thk} {p : D}
theorem Rep.lt (R : Rep L S st) : ∀ k ∈ L.mut, k < S.length := by
  intro k h
  simp only [Pl.mut, List.mem_cons, List.not_mem_nil, or_false] at h
  rcases h with rfl | rfl | rfl | rfl | rfl
  · exact (List.getElem?_eq_some_iff.mp R.w).1
  · exact (List.getElem?_eq_some_iff.mp R.kept).1
  · exact (List.getElem?_eq_some_iff.mp R.spoken).1
  · exact (List.getElem?_eq_some_iff.mp R.marks).1
  · exact (List.getElem?_eq_some_iff.mp R.cells).1
theorem EnvOk.get (h : EnvOk L S c r m b env K) (hx : x ∈ K) : ∃ v kvs, env x = some v ∧ S[r]? = some (.dct kvs) ∧ EvOk L S c m x v (valD kvs (.inr x)) := by
  obtain ⟨⟨kvs, e, _, q⟩, _, hk⟩ := h
  have := q x
  cases e2 : env x with
  | none => exact absurd e2 (hk x hx)
  | some v => rw [e2] at this; exact ⟨v, kvs, rfl, e, this⟩
theorem kd_abcd : ∀ x ∈ abcd, kd x = 0 := by decide +kernel
theorem EnvOk.none (h : EnvOk L S c r m b env K) (hx : x ∈ abcd) : env x = none ∧ ∃ kvs, S[r]? = some (.dct kvs) ∧ valD kvs (.inr x) = none := by
  obtain ⟨⟨kvs, e, _, q⟩, _, _⟩ := h
  have := q x
  have k0 := kd_abcd x hx
  cases e2 : env x with
  | none => rw [e2] at this; exact ⟨rfl, kvs, e, this⟩
  | some v =>
    rw [e2] at this
    cases v with
    | int v => have := this.2; omega
    | cell i => have := this.2.1; omega
    | th t => have := this.2; omega
theorem eW {a bb : Den} (I : Impl L S0 c t p r m) (hn : m ≤ n) (F : Frm L S0 S) (R : Rep L S st) (hc : c ≤ st.cells.length) (hf : Fits (t st).2) (h0 : ε[0]? = some (some (.ref L.run))) (ha : ZE a ε p) (hb : ZE bb ε (.ref r)) :
    ∃ S', dMeth "Run" "worth" 3 (csem n .m_Run_worth) (dVar 0) (dCons a (dCons bb dNil)) ε S = .ok (.int (t st).1) S' ∧ Frm L S S' ∧ Rep L S' (t st).2 := by
  obtain ⟨S', e, f, R'⟩ := I n hn S st F R hc hf
  exact ⟨S', eMeth (eZ (zV h0)) R.run rfl (eCons (eZ ha) (eCons (eZ hb) eNil)) e, f, R'⟩
theorem eGet2 {a k x : Den} {kk d : D} {j : Key} {kvs : List (Key × D)} (ha : ZE a ε (.ref r)) (hk : ZE k ε kk) (hx : ZE x ε d) (hn : S[r]? = some (.dct kvs)) (hj : keyD kk = some j) : dGet2 a k x ε S = .ok ((valD kvs j).getD d) S := by
  unfold dGet2
  rw [eZ ha, x_bind]
  simp only [dctAt, hn]
  rw [eZ hk, x_bind, eZ hx, x_bind]
  simp only [hn, hj]
theorem isi_s : isiD "str" S (.str x) = some true := by rfl
theorem isi_i {i : Int} : isiD "str" S (.int i) = some false := by rfl
theorem eIsi {a : Den} {d : D} {q : Bool} {cn : String} {S1 : Sto} (ha : a ε S = .ok d S1) (h : isiD cn S1 d = some q) : dIsi cn a ε S = .ok (.bl q) S1 := by
  unfold dIsi
  rw [ha, x_bind, h]
theorem shelf_read (ap : Apart L) (E : EnvOk L S c r m b env K) (R : Rep L S st) (hc : c ≤ st.cells.length) (hf : Fits (den [] (.rd x) env st).2) (ho : (x ∈ K ∧ kd x = 2) ∨ x ∈ abcd) :
    ∃ S', csem (n + 4) .m_Run_at_shelf [.ref L.run, .tup [.str "read", .str x], .ref r] S = .ok (.int (den [] (.rd x) env st).1) S' ∧ Frm L S S' ∧ Rep L S' (den [] (.rd x) env st).2 := by
  rw [cs_m_Run_at_shelf]
  rcases ho with ⟨hk, k2⟩ | hx
  · obtain ⟨v, kvs, ev, er, ok⟩ := E.get hk
    cases v with
    | int v => have := ok.2; omega
    | th t => have := ok.2; omega
    | cell i =>
      have hi : i < st.cells.length := by have := ok.2.2; omega
      unfold den
      simp only [ev]
      refine ⟨S, ?_, Frm.refl, R⟩
      refine run_rt ?_
      unfold b_m_Run_at_shelf
      have e0 := eGet2 (ε := List.map some [D.ref L.run, .tup [.str "read", .str x], .ref r] ++ List.replicate (5 - 3) none) (a := dVar 2) (k := dBin oGet (dVar 1) (dC (.int 1))) (x := dBin oGet (dVar 1) (dC (.int 1))) zV (zG zV) (zG zV) er rfl
      rw [ok.1] at e0
      refine eLet e0 ?_
      refine eTake (eZB (zEqS (zG zV))) (eRet (eCond (eTest (eIsi (eZ zV) isi_i)) ?_))
      rw [if_neg Bool.false_ne_true]
      refine eBin (eFld (eZ zV) R.run rfl) (eZ zV) (eGetL R.cells ?_)
      show atI (List.map D.int st.cells) (i : Int) = _
      rw [atI_in (by omega) (by simpa using hi), List.getElem?_map, Int.toNat_natCast, List.getElem?_eq_getElem hi]
      rfl
  · obtain ⟨en, kvs, er, ek⟩ := E.none hx
    unfold den at hf ⊢
    simp only [en] at hf ⊢
    obtain ⟨S', e, f, R'⟩ := touched_read n ap R hf hx
    refine ⟨S', ?_, f, R'⟩
    have e2 := touch_sem n R e
    refine run_rt ?_
    unfold b_m_Run_at_shelf
    have e0 := eGet2 (ε := List.map some [D.ref L.run, .tup [.str "read", .str x], .ref r] ++ List.replicate (5 - 3) none) (a := dVar 2) (k := dBin oGet (dVar 1) (dC (.int 1))) (x := dBin oGet (dVar 1) (dC (.int 1))) zV (zG zV) (zG zV) er rfl
    rw [ek] at e0
    refine eLet e0 ?_
    refine eTake (eZB (zEqS (zG zV))) (eRet (eCond (eTest (eIsi (eZ zV) isi_s)) ?_))
    rw [if_pos rfl]
    exact eMeth (eZ zV) R.run rfl (eCons (eTup (eCons (eZ zC) (eCons (eZ zV) eNil))) eNil) e2
end
end DL

set_option Elab.async false
set_option linter.all false
set_option maxRecDepth 100000
set_option maxHeartbeats 1000000
namespace DL
open PySem L2
section
variable {L : Pl} {S S0 : Sto} {st : Stt} {ε : Env} {c r m n b M : Nat} {env : Ev} {K : List Str} {x : Str} {t : Thk} {p : D} {rs : List RS}
theorem ePutL {a b kk : Den} {d : D} {ds : List D} {i k : Nat} {S1 : Sto} (hv : a ε S = .ok d S1) (ho : b ε S1 = .ok (.ref k) S1) (hk : kk ε S1 = .ok (.int (i : Int)) S1) (hn : S1[k]? = some (.lst ds)) (hi : i < ds.length) : sPut b kk a ε S = .ok (.nx ε) (S1.set k (.lst (ds.set i d))) := by
  unfold sPut
  rw [hv, x_sE, ho, x_sE, hk, x_sE]
  simp only [dctAt, lstAt, hn]
  have : ixN ds.length (i : Int) = some i := by
    unfold ixN
    rw [if_pos (by omega), if_pos (by omega), Int.toNat_natCast]
  simp only [this]
theorem impl_wr {a : Deed} (ap : Apart L) (E : EnvOk L S0 c r m b env K) (ge : GrowE env) (gr : GrowR rs) (I : Impl L S0 c (den rs a env) (enc a) r M) (hM : 4 ≤ M) (ho : (x ∈ K ∧ kd x = 2) ∨ x ∈ abcd) : Impl L S0 c (den rs (.wr x a) env) (enc (.wr x a)) r (M + 2) := by
  intro n hn S st F R hc hf
  obtain ⟨n, rfl⟩ : ∃ k, n = k + 5 := ⟨n - 5, by omega⟩
  have g := den_grow gr a ge st
  have E' := E.up F (Nat.le_refl _)
  rw [cs_m_Run_worth]
  have wo : ∀ {v : Int} {S' : Sto}, csem (n + 4) .m_Run_at_shelf [.ref L.run, enc (.wr x a), .ref r] S = .ok (.int v) S' → runFn 3 6 (b_m_Run_worth (csem (n + 4)) (csem (n + 3))) [D.ref L.run, enc (.wr x a), .ref r] S = .ok (.int v) S' := fun {v S'} h => by
    refine run_rt ?_
    unfold b_m_Run_worth
    refine eLet (eZ (zG zV)) ?_
    exact eSkip (eZB (zEqS zV)) (eSkip (eZB (zEqS zV)) (eTake (eZB (zIn (qs := ["read", "write"]) zV (fun _ => rfl))) (eRet (eMeth (eZ zV) R.run rfl (eCons (eZ zV) (eCons (eZ zV) eNil)) h))))
  rcases ho with ⟨hk, k2⟩ | hx
  · obtain ⟨v, kvs, ev, er, ok⟩ := E'.get hk
    cases v with
    | int v => have := ok.2; omega
    | th t => have := ok.2; omega
    | cell i =>
      unfold den at hf ⊢
      simp only [ev] at hf ⊢
      have hfa : Fits (den rs a env st).2 := ⟨hf.m, hf.s, by have := hf.c; simpa [Stt.setC] using this⟩
      have hi : i < (den rs a env st).2.cells.length := by have := ok.2.2; have := g.c; omega
      have e0 := eGet2 (ε := List.map some [D.ref L.run, enc (.wr x a), .ref r] ++ List.replicate (5 - 3) none) (a := dVar 2) (k := dBin oGet (dVar 1) (dC (.int 1))) (x := dBin oGet (dVar 1) (dC (.int 1))) zV (zG zV) (zG zV) er rfl
      rw [ok.1] at e0
      obtain ⟨S', e, f, R'⟩ := eW (ε := [some (D.ref L.run), some (enc (.wr x a)), some (.ref r), some (.int (i : Int)), none]) (a := dBin oGet (dVar 1) (dC (.int 2))) (bb := dVar 2) (n := n + 3) I (by omega) F R hc hfa rfl (zG zV) zV
      refine ⟨S'.set L.cells (.lst (((den rs a env st).2.cells.set i (den rs a env st).1).map .int)), wo ?_, f.trans (Frm.set (by simp [Pl.mut])), R'.setCells ap.nes _⟩
      rw [cs_m_Run_at_shelf]
      refine run_rt ?_
      unfold b_m_Run_at_shelf
      refine eLet e0 ?_
      refine eSkip (eZB (zEqS (zG zV))) ?_
      refine eLet e ?_
      refine eSkip (eTest (eIsi (eZ zV) isi_i)) ?_
      have := ePutL (ε := [some (D.ref L.run), some (enc (.wr x a)), some (.ref r), some (.int (i : Int)), some (.int (den rs a env st).1)]) (a := dVar 4) (b := dFld "cells" (dVar 0)) (kk := dVar 3) (S := S') (eZ zV) (eFld (eZ zV) R'.run rfl) (eZ zV) R'.cells (by simpa using hi)
      rw [← List.map_set] at this
      exact eSeq this (eRet (eZ zV))
  · obtain ⟨en, kvs, er, ek⟩ := E'.none hx
    unfold den at hf ⊢
    simp only [en] at hf ⊢
    have hfa : Fits (den rs a env st).2 := Fits.of (grow_wrt x _ _) hf
    have e0 := eGet2 (ε := List.map some [D.ref L.run, enc (.wr x a), .ref r] ++ List.replicate (5 - 3) none) (a := dVar 2) (k := dBin oGet (dVar 1) (dC (.int 1))) (x := dBin oGet (dVar 1) (dC (.int 1))) zV (zG zV) (zG zV) er rfl
    rw [ek] at e0
    obtain ⟨S', e, f, R'⟩ := eW (ε := [some (D.ref L.run), some (enc (.wr x a)), some (.ref r), some (.str x), none]) (a := dBin oGet (dVar 1) (dC (.int 2))) (bb := dVar 2) (n := n + 3) I (by omega) F R hc hfa rfl (zG zV) zV
    obtain ⟨S2, e2, f2, R2⟩ := touched_write n (x := x) (v := (den rs a env st).1) ap R' hf hx
    have e3 := touch_sem n R' e2
    refine ⟨S2, wo ?_, f.trans f2, R2⟩
    rw [cs_m_Run_at_shelf]
    refine run_rt ?_
    unfold b_m_Run_at_shelf
    refine eLet e0 ?_
    refine eSkip (eZB (zEqS (zG zV))) ?_
    refine eLet e ?_
    exact eTake (eTest (eIsi (eZ zV) isi_s)) (eRet (eMeth (eZ zV) R'.run rfl (eCons (eTup (eCons (eZ zC) (eCons (eZ zV) (eCons (eZ zV) eNil)))) eNil) e3))
theorem impl_num {i : Int} : Impl L S0 c (den rs (.num i) env) (enc (.num i)) r 2 := by
  intro n hn S st F R hc hf
  obtain ⟨n, rfl⟩ : ∃ k, n = k + 2 := ⟨n - 2, by omega⟩
  unfold den
  refine ⟨S, ?_, Frm.refl, R⟩
  rw [cs_m_Run_worth]
  refine run_rt ?_
  unfold b_m_Run_worth
  refine eLet (eZ (zG zV)) ?_
  exact eTake (eZB (zEqS zV)) (eRet (eZ (zG zV)))
theorem impl_nam (E : EnvOk L S0 c r m b env K) (hk : x ∈ K) (k1 : kd x = 1) : Impl L S0 c (den rs (.nam x) env) (enc (.nam x)) r 2 := by
  intro n hn S st F R hc hf
  obtain ⟨n, rfl⟩ : ∃ k, n = k + 2 := ⟨n - 2, by omega⟩
  obtain ⟨v, kvs, ev, er, ok⟩ := (E.up F (Nat.le_refl _)).get hk
  cases v with
  | cell i => have := ok.2.1; omega
  | th t => have := ok.2; omega
  | int v =>
    unfold den
    simp only [ev]
    refine ⟨S, ?_, Frm.refl, R⟩
    rw [cs_m_Run_worth]
    refine run_rt ?_
    unfold b_m_Run_worth
    refine eLet (eZ (zG zV)) ?_
    exact eSkip (eZB (zEqS zV)) (eTake (eZB (zEqS zV)) (eRet (eBin (eZ zV) (eZ (zG zV)) (eGetD er rfl ok.1))))
theorem impl_dod (E : EnvOk L S0 c r m b env K) (hk : x ∈ K) (k3 : kd x = 3) : Impl L S0 c (den rs (.dod x) env) (enc (.dod x)) r (m + 2) := by
  intro n hn S st F R hc hf
  obtain ⟨n, rfl⟩ : ∃ k, n = k + 2 := ⟨n - 2, by omega⟩
  obtain ⟨v, kvs, ev, er, ok⟩ := (E.up F (Nat.le_refl _)).get hk
  cases v with
  | cell i => have := ok.2.1; omega
  | int v => have := ok.2; omega
  | th t =>
    obtain ⟨⟨p, r', eo, I⟩, _⟩ := ok
    unfold den at hf ⊢
    simp only [ev] at hf ⊢
    obtain ⟨S', e, f, R'⟩ := eW (ε := [some (D.ref L.run), some (enc (.dod x)), some (.ref r), some (.str "do"), some p, some (.ref r')]) (a := dVar 4) (bb := dVar 5) (n := n + 1) I (by omega) Frm.refl R hc hf rfl zV zV
    refine ⟨S', ?_, f, R'⟩
    rw [cs_m_Run_worth]
    refine run_rt ?_
    unfold b_m_Run_worth
    refine eLet (eZ (zG zV)) ?_
    refine eSkip (eZB (zEqS zV)) (eSkip (eZB (zEqS zV)) (eSkip (eZB (zIn (qs := ["read", "write"]) zV (fun _ => rfl))) (eSkip (eZB (zEqS zV)) (eSkip (eZB (zEqS zV)) (eTake (eZB (zEqS zV)) ?_)))))
    refine eLet (eBin (eZ zV) (eZ (zG zV)) (eGetD er rfl eo)) ?_
    exact eRet e
theorem impl_ask (ap : Apart L) : Impl L S0 c (den rs .ask env) (enc .ask) r 4 := by
  intro n hn S st F R hc hf
  obtain ⟨n, rfl⟩ : ∃ k, n = k + 4 := ⟨n - 4, by omega⟩
  unfold den at hf ⊢
  obtain ⟨S', e, f, R'⟩ := touched_ask n ap R hf
  have e3 := touch_sem n R e
  refine ⟨S', ?_, f, R'⟩
  rw [cs_m_Run_worth]
  refine run_rt ?_
  unfold b_m_Run_worth
  refine eLet (eZ (zG zV)) ?_
  exact eSkip (eZB (zEqS zV)) (eSkip (eZB (zEqS zV)) (eSkip (eZB (zIn (qs := ["read", "write"]) zV (fun _ => rfl))) (eTake (eZB (zEqS zV)) (eRet (eMeth (eZ zV) R.run rfl (eCons (eTup (eCons (eZ zC) eNil)) eNil) e3)))))
theorem den_rd (rs : List RS) : den rs (.rd x) env = den [] (.rd x) env := by unfold den; rfl
theorem impl_rd (ap : Apart L) (E : EnvOk L S0 c r m b env K) (ho : (x ∈ K ∧ kd x = 2) ∨ x ∈ abcd) : Impl L S0 c (den rs (.rd x) env) (enc (.rd x)) r 5 := by
  intro n hn S st F R hc hf
  obtain ⟨n, rfl⟩ : ∃ k, n = k + 5 := ⟨n - 5, by omega⟩
  rw [den_rd] at hf ⊢
  obtain ⟨S', e, f, R'⟩ := shelf_read (n := n) ap (E.up F (Nat.le_refl _)) R hc hf ho
  refine ⟨S', ?_, f, R'⟩
  rw [cs_m_Run_worth]
  refine run_rt ?_
  unfold b_m_Run_worth
  refine eLet (eZ (zG zV)) ?_
  exact eSkip (eZB (zEqS zV)) (eSkip (eZB (zEqS zV)) (eTake (eZB (zIn (qs := ["read", "write"]) zV (fun _ => rfl))) (eRet (eMeth (eZ zV) R.run rfl (eCons (eZ zV) (eCons (eZ zV) eNil)) e))))
theorem impl_say {a : Deed} (ap : Apart L) (I : Impl L S0 c (den rs a env) (enc a) r M) (hM : 4 ≤ M) : Impl L S0 c (den rs (.say a) env) (enc (.say a)) r (M + 2) := by
  intro n hn S st F R hc hf
  obtain ⟨n, rfl⟩ : ∃ k, n = k + 5 := ⟨n - 5, by omega⟩
  unfold den at hf ⊢
  have hfa : Fits (den rs a env st).2 := Fits.of (grow_say _ _) hf
  obtain ⟨S', e, f, R'⟩ := eW (ε := [some (D.ref L.run), some (enc (.say a)), some (.ref r), some (.str "say"), none, none]) (a := dBin oGet (dVar 1) (dC (.int 1))) (bb := dVar 2) (n := n + 4) I (by omega) F R hc hfa rfl (zG zV) zV
  obtain ⟨S2, e2, f2, R2⟩ := touched_say (n + 1) (v := (den rs a env st).1) ap R' hf
  have e3 := touch_sem (n + 1) R' e2
  refine ⟨S2, ?_, f.trans f2, R2⟩
  rw [cs_m_Run_worth]
  refine run_rt ?_
  unfold b_m_Run_worth
  refine eLet (eZ (zG zV)) ?_
  exact eSkip (eZB (zEqS zV)) (eSkip (eZB (zEqS zV)) (eSkip (eZB (zIn (qs := ["read", "write"]) zV (fun _ => rfl))) (eSkip (eZB (zEqS zV)) (eTake (eZB (zEqS zV)) (eRet (eMeth (eZ zV) R.run rfl (eCons (eTup (eCons (eZ zC) (eCons e eNil))) eNil) e3))))))
end
end DL

set_option Elab.async false
set_option linter.all false
set_option maxRecDepth 100000
set_option maxHeartbeats 1000000
namespace DL
open PySem L2
section
variable {L : Pl} {S S0 : Sto} {st : Stt} {ε : Env} {c r m n b M : Nat} {env : Ev} {K : List Str} {x : Str} {t : Thk} {p : D} {rs : List RS}
theorem worth_put {wd : Str} {ds : List D} {v : Int} {S' : Sto} (R : Rep L S st) (hw : wd ∈ (["if", "then", "add", "less", "loop"] : List Str)) (h : csem (n + 1) .m_Run_put_together [.ref L.run, .tup (.str wd :: ds), .ref r] S = .ok (.int v) S') :
    csem (n + 2) .m_Run_worth [.ref L.run, .tup (.str wd :: ds), .ref r] S = .ok (.int v) S' := by
  rw [cs_m_Run_worth]
  refine run_rt ?_
  unfold b_m_Run_worth
  refine eLet (eZ (zG zV atI_0)) ?_
  simp only [List.mem_cons, List.not_mem_nil, or_false] at hw
  rcases hw with rfl | rfl | rfl | rfl | rfl
  all_goals exact eSkip (eZB (zEqS zV)) (eSkip (eZB (zEqS zV)) (eSkip (eZB (zIn (qs := ["read", "write"]) zV (fun _ => rfl))) (eSkip (eZB (zEqS zV)) (eSkip (eZB (zEqS zV)) (eSkip (eZB (zEqS zV)) (eSkip (eZB (zIn (qs := ["call", "let", "own"]) zV (fun _ => rfl))) (eRet (eMeth (eZ zV) R.run rfl (eCons (eZ zV) (eCons (eZ zV) eNil)) h))))))))
theorem impl_iff {a b c' : Deed} (ge : GrowE env) (gr : GrowR rs) (Ia : Impl L S0 c (den rs a env) (enc a) r M) (Ib : Impl L S0 c (den rs b env) (enc b) r M) (Ic : Impl L S0 c (den rs c' env) (enc c') r M) (hM : 1 ≤ M) : Impl L S0 c (den rs (.iff a b c') env) (enc (.iff a b c')) r (M + 2) := by
  intro n hn S st F R hc hf
  obtain ⟨n, rfl⟩ : ∃ k, n = k + 2 := ⟨n - 2, by omega⟩
  have ga := den_grow gr a ge st
  obtain ⟨n, rfl⟩ : ∃ k, n = k + 1 := ⟨n - 1, by omega⟩
  unfold den at hf ⊢
  have hfa : Fits (den rs a env st).2 := by
    split at hf
    · exact Fits.of (den_grow gr b ge _) hf
    · exact Fits.of (den_grow gr c' ge _) hf
  obtain ⟨S', e, f, R'⟩ := eW (ε := [some (D.ref L.run), some (enc (.iff a b c')), some (.ref r), some (.str "if"), none, none, none]) (a := dBin oGet (dVar 1) (dC (.int 1))) (bb := dVar 2) (n := n + 1) Ia (by omega) F R hc hfa rfl (zG zV) zV
  have hc' : c ≤ (den rs a env st).2.cells.length := Nat.le_trans hc ga.c
  by_cases hv : (den rs a env st).1 ≠ 0
  · rw [if_pos hv] at hf ⊢
    obtain ⟨S2, e2, f2, R2⟩ := Ib (n + 1) (by omega) S' _ (F.trans f) R' hc' hf
    refine ⟨S2, worth_put R (by simp) ?_, f.trans f2, R2⟩
    rw [cs_m_Run_put_together]
    refine run_rt ?_
    unfold b_m_Run_put_together
    refine eLet (eZ (zG zV)) ?_
    refine eLet e ?_
    refine eTake (eZB (zEqS zV)) (eRet (eMeth (eZ zV) R'.run rfl (eCons (d := enc b) (eCond (eTest (eBin (eZ zV) (eZ zC) x_neI)) ?_) (eCons (eZ zV) eNil)) e2))
    rw [if_pos (by simpa using hv)]
    exact eZ (zG zV)
  · rw [if_neg hv] at hf ⊢
    obtain ⟨S2, e2, f2, R2⟩ := Ic (n + 1) (by omega) S' _ (F.trans f) R' hc' hf
    refine ⟨S2, worth_put R (by simp) ?_, f.trans f2, R2⟩
    rw [cs_m_Run_put_together]
    refine run_rt ?_
    unfold b_m_Run_put_together
    refine eLet (eZ (zG zV)) ?_
    refine eLet e ?_
    refine eTake (eZB (zEqS zV)) (eRet (eMeth (eZ zV) R'.run rfl (eCons (d := enc c') (eCond (eTest (eBin (eZ zV) (eZ zC) x_neI)) ?_) (eCons (eZ zV) eNil)) e2))
    rw [if_neg (by simpa using hv)]
    exact eZ (zG zV)
theorem turns {a : Den} {m jv : Nat} (ge : GrowE env) (gr : GrowR rs) {bd : Deed} (Ib : Impl L S0 c (den rs bd env) (enc bd) r M) (hn : M ≤ n) (h0 : ε[0]? = some (some (.ref L.run))) (hj : jv ≠ 0) (ha : ∀ v, ZE a (ε.set jv v) (enc bd)) {bb : Den} (hb : ∀ v, ZE bb (ε.set jv v) (.ref r)) :
    ∀ (k i : Nat) (v : Option D) (S : Sto) (st : Stt), i + k = m → Frm L S0 S → Rep L S st → c ≤ st.cells.length → Fits (iterT (den rs bd env) k st) →
      ∃ S' v', forI (fun _ => some (nums 0 m)) (gN jv) (sExpr (dMeth "Run" "worth" 3 (csem n .m_Run_worth) (dVar 0) (dCons a (dCons bb dNil)))) (k + 1) i (ε.set jv v) S = .ok (.nx (ε.set jv v')) S' ∧ Frm L S S' ∧ Rep L S' (iterT (den rs bd env) k st)
  | 0, i, v, S, st, hi, F, R, hc, hf => by
    refine ⟨S, v, ?_, Frm.refl, R⟩
    unfold forI
    simp only [nums_get, if_neg (show ¬ i < m by omega)]
  | k + 1, i, v, S, st, hi, F, R, hc, hf => by
    unfold iterT at hf ⊢
    have g := den_grow gr bd ge st
    have hfa : Fits (den rs bd env st).2 := Fits.of (grow_iter (den_grow gr bd ge) k _) hf
    obtain ⟨S1, e1, f1, R1⟩ := eW (ε := ε.set jv (some (.int (i : Int)))) (a := a) (bb := bb) Ib hn F R hc hfa (by rw [List.getElem?_set_ne hj]; exact h0) (ha _) (hb _)
    obtain ⟨S2, v2, e2, f2, R2⟩ := turns (m := m) ge gr Ib hn h0 hj ha hb k (i + 1) (some (.int (i : Int))) S1 _ (by omega) (F.trans f1) R1 (Nat.le_trans hc g.c) hf
    refine ⟨S2, v2, ?_, f1.trans f2, R2⟩
    unfold forI
    simp only [nums_get, if_pos (show i < m by omega), x_gN, List.set_set, eExpr e1]
    exact e2
theorem impl_two {w : Two} {a b : Deed} (ge : GrowE env) (gr : GrowR rs) (Ia : Impl L S0 c (den rs a env) (enc a) r M) (Ib : Impl L S0 c (den rs b env) (enc b) r M) (hM : 1 ≤ M) : Impl L S0 c (den rs (.two w a b) env) (enc (.two w a b)) r (M + 2) := by
  intro n hn S st F R hc hf
  obtain ⟨n, rfl⟩ : ∃ k, n = k + 3 := ⟨n - 3, by omega⟩
  have ga := den_grow gr a ge st
  have gb := den_grow gr b ge (den rs a env st).2
  have hc' : c ≤ (den rs a env st).2.cells.length := Nat.le_trans hc ga.c
  have two_steps : Fits (den rs b env (den rs a env st).2).2 → ∃ S' S2, (∀ {wd : Str}, dMeth "Run" "worth" 3 (csem (n + 1) .m_Run_worth) (dVar 0) (dCons (dBin oGet (dVar 1) (dC (.int 1))) (dCons (dVar 2) dNil)) [some (D.ref L.run), some (.tup [.str wd, enc a, enc b]), some (.ref r), some (.str wd), none, none, none] S = .ok (.int (den rs a env st).1) S') ∧
      (∀ {wd : Str}, dMeth "Run" "worth" 3 (csem (n + 1) .m_Run_worth) (dVar 0) (dCons (dBin oGet (dVar 1) (dC (.int 2))) (dCons (dVar 2) dNil)) [some (D.ref L.run), some (.tup [.str wd, enc a, enc b]), some (.ref r), some (.str wd), some (.int (den rs a env st).1), none, none] S' = .ok (.int (den rs b env (den rs a env st).2).1) S2) ∧ Frm L S S2 ∧ Rep L S2 (den rs b env (den rs a env st).2).2 := fun hfb => by
    obtain ⟨S', e, f, R'⟩ := Ia (n + 1) (by omega) S st F R hc (Fits.of gb hfb)
    obtain ⟨S2, e2, f2, R2⟩ := Ib (n + 1) (by omega) S' _ (F.trans f) R' hc' hfb
    exact ⟨S', S2, eMeth (eZ zV) R.run rfl (eCons (eZ (zG zV)) (eCons (eZ zV) eNil)) e, eMeth (eZ zV) R'.run rfl (eCons (eZ (zG zV)) (eCons (eZ zV) eNil)) e2, f.trans f2, R2⟩
  cases w with
  | thn =>
    unfold den at hf ⊢
    obtain ⟨S', S2, e, e2, f2, R2⟩ := two_steps hf
    refine ⟨S2, worth_put R (by simp [Two.w]) ?_, f2, R2⟩
    rw [cs_m_Run_put_together]
    refine run_rt ?_
    unfold b_m_Run_put_together
    refine eLet (eZ (zG zV)) ?_
    refine eLet e ?_
    refine eSkip (eZB (zEqS zV (by decide +kernel))) (eSkip (eZB (zEqS zV (by decide +kernel))) ?_)
    refine eLet e2 ?_
    exact eTake (eZB (zEqS zV (by decide +kernel))) (eRet (eZ zV))
  | add =>
    unfold den at hf ⊢
    obtain ⟨S', S2, e, e2, f2, R2⟩ := two_steps hf
    refine ⟨S2, worth_put R (by simp [Two.w]) ?_, f2, R2⟩
    rw [cs_m_Run_put_together]
    refine run_rt ?_
    unfold b_m_Run_put_together
    refine eLet (eZ (zG zV)) ?_
    refine eLet e ?_
    refine eSkip (eZB (zEqS zV (by decide +kernel))) (eSkip (eZB (zEqS zV (by decide +kernel))) ?_)
    refine eLet e2 ?_
    refine eSkip (eZB (zEqS zV (by decide +kernel))) (eRet (eCond (eZB (zEqS (t := true) zV (by decide +kernel))) ?_))
    rw [if_pos rfl]
    refine eBin (eBin (eZ zV) (eZ zV) x_addI) (eZ zC) ?_
    rw [x_modI, if_pos (by decide)]
  | les =>
    unfold den at hf ⊢
    obtain ⟨S', S2, e, e2, f2, R2⟩ := two_steps hf
    refine ⟨S2, worth_put R (by simp [Two.w]) ?_, f2, R2⟩
    rw [cs_m_Run_put_together]
    refine run_rt ?_
    unfold b_m_Run_put_together
    refine eLet (eZ (zG zV)) ?_
    refine eLet e ?_
    refine eSkip (eZB (zEqS zV (by decide +kernel))) (eSkip (eZB (zEqS zV (by decide +kernel))) ?_)
    refine eLet e2 ?_
    refine eSkip (eZB (zEqS zV (by decide +kernel))) (eRet (eCond (eZB (zEqS (t := false) zV (by decide +kernel))) ?_))
    rw [if_neg Bool.false_ne_true]
    refine eFn (eCons (eBin (eZ zV) (eZ zV) x_ltI) eNil) ?_
    unfold fInt
    simp only [decide_eq_true_eq]
  | lop =>
    unfold den at hf ⊢
    have hfa : Fits (den rs a env st).2 := Fits.of (grow_iter (den_grow gr b ge) _ _) hf
    obtain ⟨S', e, f, R'⟩ := Ia (n + 1) (by omega) S st F R hc hfa
    have h0 := Int.emod_nonneg (den rs a env st).1 (show (4 : Int) ≠ 0 by decide)
    have h1 := Int.emod_lt_of_pos (den rs a env st).1 (show (0 : Int) < 4 by decide)
    obtain ⟨S2, v2, e2, f2, R2⟩ := turns (n := n + 1) (ε := [some (D.ref L.run), some (enc (.two .lop a b)), some (.ref r), some (.str "loop"), some (.int (den rs a env st).1), none, none]) (m := ((den rs a env st).1 % 4).toNat) (jv := 5) (a := dBin oGet (dVar 1) (dC (.int 2))) (bb := dVar 2) ge gr Ib (by omega) rfl (by decide) (fun v => zG zV) (fun v => zV) _ 0 none S' _ (by omega) (F.trans f) R' hc' hf
    refine ⟨S2, worth_put R (by simp [Two.w]) ?_, f.trans f2, R2⟩
    rw [cs_m_Run_put_together]
    refine run_rt ?_
    unfold b_m_Run_put_together
    refine eLet (eZ (zG zV)) ?_
    refine eLet (eMeth (eZ zV) R.run rfl (eCons (eZ (zG zV)) (eCons (eZ zV) eNil)) e) ?_
    have it := iRange1_of (a := dBin oMod (dVar 4) (dC (.int 4))) (ε := [some (D.ref L.run), some (enc (.two .lop a b)), some (.ref r), some (.str "loop"), some (.int (den rs a env st).1), none, none]) (S := S') (S' := S') (j := (den rs a env st).1 % 4) (okR_of h0 (by omega)) (eBin (eZ zV) (eZ zC) (by rw [x_modI, if_pos (by decide)]))
    refine eSkip (eZB (zEqS zV (by decide +kernel))) (eTake (eZB (zEqS zV (by decide +kernel))) (eSeq (sFor_of it e2) (eRet (eZ zC))))
end
end DL

set_option Elab.async false
set_option linter.all false
set_option maxRecDepth 100000
set_option maxHeartbeats 1000000
namespace DL
open PySem L2
section
variable {L : Pl} {S S0 : Sto} {st : Stt} {ε : Env} {c r m n b M : Nat} {env : Ev} {K : List Str} {x : Str} {t : Thk} {p : D} {rs : List RS}
theorem worth_with {wd : Str} {ds : List D} {v : Int} {S' : Sto} (R : Rep L S st) (hw : wd ∈ (["call", "let", "own"] : List Str)) (h : csem (n + 1) .m_Run_with_names [.ref L.run, .tup (.str wd :: ds), .ref r] S = .ok (.int v) S') :
    csem (n + 2) .m_Run_worth [.ref L.run, .tup (.str wd :: ds), .ref r] S = .ok (.int v) S' := by
  rw [cs_m_Run_worth]
  refine run_rt ?_
  unfold b_m_Run_worth
  refine eLet (eZ (zG zV atI_0)) ?_
  simp only [List.mem_cons, List.not_mem_nil, or_false] at hw
  rcases hw with rfl | rfl | rfl
  all_goals exact eSkip (eZB (zEqS zV)) (eSkip (eZB (zEqS zV)) (eSkip (eZB (zIn (qs := ["read", "write"]) zV (fun _ => rfl))) (eSkip (eZB (zEqS zV)) (eSkip (eZB (zEqS zV)) (eSkip (eZB (zEqS zV)) (eTake (eZB (zIn (qs := ["call", "let", "own"]) zV (fun _ => rfl))) (eRet (eMeth (eZ zV) R.run rfl (eCons (eZ zV) (eCons (eZ zV) eNil)) h))))))))
theorem fDict_copy {kvs : List (Key × D)} (h : S[r]? = some (.dct kvs)) : fDict [.ref r] S = .ok (.ref S.length) (S ++ [.dct kvs]) := by
  unfold fDict
  simp only [dctAt, h]
theorem put_last {E : Sto} {o o' : O} : (S ++ [o]).set S.length o' = S ++ [o'] := by simp
theorem EvOk.mono {v : EV} {o : Option D} {m' c' : Nat} {S' : Sto} (h : EvOk L S c m x v o) (f : Frm L S S') (hc : c ≤ c') (hm : m ≤ m') : EvOk L S' c' m' x v o := by
  cases v with
  | int v => exact h
  | cell i => exact ⟨h.1, h.2.1, Nat.lt_of_lt_of_le h.2.2 hc⟩
  | th t =>
    obtain ⟨⟨p, r, e, i⟩, k⟩ := h
    exact ⟨⟨p, r, e, i.up f hc hm⟩, k⟩
theorem EnvOk.put (E : EnvOk L S c r m b env K) {S' : Sto} (f : Frm L S S') (R : Rep L S' st) {kvs : List (Key × D)} (hk : S[r]? = some (.dct kvs)) {c' : Nat} (hc : c ≤ c') {kvs' : List (Key × D)} (hl : kvs'.length ≤ b + 1) (hv : ∀ y, valD kvs' (.inr y) = if y = x then some p else valD kvs (.inr y)) {v : EV} (hx : EvOk L (S' ++ [.dct kvs']) c' m x v (some p)) :
    EnvOk L (S' ++ [.dct kvs']) c' S'.length m (b + 1) (putE x v env) (x :: K) := by
  obtain ⟨⟨kvs0, e, hlen, q⟩, hr, hK⟩ := E
  rw [hk] at e
  cases e
  refine ⟨⟨kvs', by simp, hl, fun y => ?_⟩, fun h => Nat.lt_irrefl _ (R.lt _ h), fun y hy => ?_⟩
  · have := q y
    rw [hv y]
    unfold putE
    by_cases e : y = x
    · subst e
      simp only [if_true]
      exact hx
    · simp only [e, if_false]
      cases h : env y with
      | none => rw [h] at this; exact this
      | some w => rw [h] at this; exact this.mono (f.trans Frm.app) hc (Nat.le_refl _)
  · unfold putE
    rcases List.mem_cons.mp hy with e | e
    · rw [if_pos e]; simp
    · split
      · simp
      · exact hK y e
theorem big2 {n b : Nat} (h : n ≤ b) (hb : b ≤ 1000) : n < big := Nat.lt_of_le_of_lt (Nat.le_trans h hb) (by decide)
theorem impl_lt {a bd : Deed} (E : EnvOk L S0 c r m b env K) (hb : b < 1000) (ge : GrowE env) (gr : GrowR rs) (k1 : kd x = 1) (Ia : Impl L S0 c (den rs a env) (enc a) r M)
    (Ib : ∀ (v : Int) S1 r1 c1, EnvOk L S1 c1 r1 m (b + 1) (putE x (.int v) env) (x :: K) → Impl L S1 c1 (den rs bd (putE x (.int v) env)) (enc bd) r1 M) (hM : 1 ≤ M) : Impl L S0 c (den rs (.lt x a bd) env) (enc (.lt x a bd)) r (M + 2) := by
  intro n hn S st F R hc hf
  obtain ⟨n, rfl⟩ : ∃ k, n = k + 3 := ⟨n - 3, by omega⟩
  have ga := den_grow gr a ge st
  unfold den at hf ⊢
  have hfa : Fits (den rs a env st).2 := Fits.of (den_grow gr bd (ge.put fun t e => by cases e) _) hf
  obtain ⟨S', e, f, R'⟩ := Ia (n + 1) (by omega) S st F R hc hfa
  have E' := E.up (F.trans f) (Nat.le_refl _)
  obtain ⟨kvs, ek, el, _⟩ := E'.d
  have E2 := E'.put (x := x) (p := .int (den rs a env st).1) Frm.refl R' ek (Nat.le_refl _) (kvs' := putD kvs (.inr x) (.int (den rs a env st).1)) (Nat.le_trans (putD_len _ _ _) (by omega)) (fun y => by
    rw [valD_put]
    simp only [Sum.inr.injEq]) (v := .int (den rs a env st).1) ⟨rfl, k1⟩
  obtain ⟨S2, e2, f2, R2⟩ := Ib _ _ _ _ E2 (n + 1) (by omega) _ _ Frm.refl (R'.app _) (Nat.le_trans hc ga.c) hf
  refine ⟨S2, worth_with R (by simp) ?_, f.trans (Frm.app.trans f2), R2⟩
  rw [cs_m_Run_with_names]
  refine run_rt ?_
  unfold b_m_Run_with_names
  refine eSkip (eZB (zEqS (zG zV))) ?_
  refine eLet (eMeth (eZ zV) R.run rfl (eCons (eZ (zG zV)) (eCons (eZ zV) eNil)) e) ?_
  refine eLet (eFn (eCons (eZ zV) eNil) (fDict_copy ek)) ?_
  have pt := ePutD (ε := [some (D.ref L.run), some (enc (.lt x a bd)), some (.ref r), none, none, none, some (.ref S'.length), some (.int (den rs a env st).1), none, none]) (a := dVar 7) (b := dVar 6) (kk := dBin oGet (dVar 1) (dC (.int 1))) (S := S' ++ [O.dct kvs]) (eZ zV) (eZ zV) (eZ (zG zV)) getLast_app rfl (big2 el (by omega))
  rw [put_last (E := S)] at pt
  refine eSeq pt ?_
  refine eSkip (eZB (zEqS (zG zV))) (eRet (eMeth (eZ zV) (R'.app _).run rfl (eCons (eZ (zG zV)) (eCons (eZ zV) eNil)) e2))
theorem impl_own {a bd : Deed} (ap : Apart L) (E : EnvOk L S0 c r m b env K) (hb : b < 1000) (ge : GrowE env) (gr : GrowR rs) (k2 : kd x = 2) (Ia : Impl L S0 c (den rs a env) (enc a) r M)
    (Ib : ∀ (i : Nat) S1 r1 c1, EnvOk L S1 c1 r1 m (b + 1) (putE x (.cell i) env) (x :: K) → Impl L S1 c1 (den rs bd (putE x (.cell i) env)) (enc bd) r1 M) (hM : 1 ≤ M) : Impl L S0 c (den rs (.own x a bd) env) (enc (.own x a bd)) r (M + 2) := by
  intro n hn S st F R hc hf
  obtain ⟨n, rfl⟩ : ∃ k, n = k + 3 := ⟨n - 3, by omega⟩
  have ga := den_grow gr a ge st
  unfold den at hf ⊢
  have gp : Lst (den rs a env st).2 ((den rs a env st).2.push (den rs a env st).1) := ⟨Nat.le_refl _, Nat.le_refl _, by simp [Stt.push]⟩
  have hfp : Fits ((den rs a env st).2.push (den rs a env st).1) := Fits.of (den_grow gr bd (ge.put fun t e => by cases e) _) hf
  have hfa : Fits (den rs a env st).2 := Fits.of gp hfp
  obtain ⟨S', e, f, R'⟩ := Ia (n + 1) (by omega) S st F R hc hfa
  have E' := E.up (F.trans f) (Nat.le_refl _)
  obtain ⟨kvs, ek, el, _⟩ := E'.d
  -- the store with the cell, then the dict
  let kvs1 := putD kvs (.inr x) (.int (den rs a env st).1)
  let kvs2 := putD kvs1 (.inr x) (.int ((den rs a env st).2.cells.length : Int))
  let S1 := S'.set L.cells (.lst (((den rs a env st).2.cells ++ [(den rs a env st).1]).map .int))
  have R1 : Rep L S1 ((den rs a env st).2.push (den rs a env st).1) := R'.setCells ap.nes _
  have f1 : Frm L S' S1 := Frm.set (by simp [Pl.mut])
  have hlen : S1.length = S'.length := by simp [S1]
  have ek1 : S1[r]? = some (.dct kvs) := f1.keep _ _ E'.r ek
  have E2 := (E'.up f1 (Nat.le_refl _)).put (x := x) (p := .int ((den rs a env st).2.cells.length : Int)) Frm.refl R1 ek1 (c' := (den rs a env st).2.cells.length + 1) (by have := ga.c; omega) (kvs' := kvs2) (by
    have h1 : kvs1.length ≤ kvs.length + 1 := putD_len (.inr x) (.int (den rs a env st).1) kvs
    have h2 : kvs2.length = kvs1.length := by
      have : (kvs1.any fun kv => decide (kv.1 = .inr x)) = true := by
        have hv : valD kvs1 (.inr x) = some (.int (den rs a env st).1) := by rw [valD_put, if_pos rfl]
        unfold valD at hv
        cases q : kvs1.find? (fun kv => decide (kv.1 = .inr x)) with
        | none => rw [q] at hv; cases hv
        | some z =>
          have q2 := List.find?_some q
          exact List.any_eq_true.mpr ⟨z, List.mem_of_find?_eq_some q, by simpa using q2⟩
      show (putD kvs1 _ _).length = _
      unfold putD
      rw [if_pos this, List.length_map]
    omega) (fun y => by
    show valD (putD (putD kvs _ _) _ _) _ = _
    rw [valD_put, valD_put]
    simp only [Sum.inr.injEq]
    split <;> rfl) (v := .cell (den rs a env st).2.cells.length) ⟨rfl, k2, Nat.lt_succ_self _⟩
  obtain ⟨S2, e2, f2, R2⟩ := Ib _ _ _ _ E2 (n + 1) (by omega) _ _ Frm.refl (R1.app _) (by simp [Stt.push]) hf
  rw [hlen] at e2
  refine ⟨S2, worth_with R (by simp) ?_, f.trans (f1.trans (Frm.app.trans f2)), R2⟩
  rw [cs_m_Run_with_names]
  refine run_rt ?_
  unfold b_m_Run_with_names
  refine eSkip (eZB (zEqS (zG zV))) ?_
  refine eLet (eMeth (eZ zV) R.run rfl (eCons (eZ (zG zV)) (eCons (eZ zV) eNil)) e) ?_
  refine eLet (eFn (eCons (eZ zV) eNil) (fDict_copy ek)) ?_
  have pt := ePutD (ε := [some (D.ref L.run), some (enc (.own x a bd)), some (.ref r), none, none, none, some (.ref S'.length), some (.int (den rs a env st).1), none, none]) (a := dVar 7) (b := dVar 6) (kk := dBin oGet (dVar 1) (dC (.int 1))) (S := S' ++ [O.dct kvs]) (eZ zV) (eZ zV) (eZ (zG zV)) getLast_app rfl (big2 el (by omega))
  rw [put_last (E := S)] at pt
  refine eSeq pt ?_
  -- the cell
  have Ra := R'.app [O.dct kvs1]
  have hcl : L.cells < S'.length := R'.lt _ (by simp [Pl.mut])
  have ap1 := eApp (ε := [some (D.ref L.run), some (enc (.own x a bd)), some (.ref r), none, none, none, some (.ref S'.length), some (.int (den rs a env st).1), none, none]) (a := dFld "cells" (dVar 0)) (b := dVar 7) (S := S' ++ [O.dct kvs1]) (eFld (eZ zV) Ra.run rfl) Ra.cells (eZ zV) (big5 (by rw [List.length_map]; exact hfa.c))
  have es : (S' ++ [O.dct kvs1]).set L.cells (.lst ((den rs a env st).2.cells.map .int ++ [.int (den rs a env st).1])) = S1 ++ [O.dct kvs1] := by
    rw [List.set_append_left _ _ hcl]
    show _ = S'.set L.cells (.lst (((den rs a env st).2.cells ++ [(den rs a env st).1]).map .int)) ++ _
    rw [List.map_append]
    rfl
  rw [es] at ap1
  have R1a := R1.app [O.dct kvs1]
  have el2 : fLen [.ref L.cells] (S1 ++ [O.dct kvs1]) = .ok (.int (((den rs a env st).2.cells.length : Int) + 1)) (S1 ++ [O.dct kvs1]) := by
    unfold fLen
    simp only [items, R1a.cells]
    simp [Stt.push]
  have pt2 := ePutD (ε := [some (D.ref L.run), some (enc (.own x a bd)), some (.ref r), none, none, none, some (.ref S'.length), some (.int (den rs a env st).1), none, none]) (a := dBin oSub (dFn fLen (dCons (dFld "cells" (dVar 0)) dNil)) (dC (.int 1))) (b := dVar 6) (kk := dBin oGet (dVar 1) (dC (.int 1))) (S := S1 ++ [O.dct kvs1]) (S1 := S1 ++ [O.dct kvs1]) (x := .int ((den rs a env st).2.cells.length : Int)) (eBin (eFn (eCons (eFld (eZ zV) R1a.run rfl) eNil) el2) (eZ zC) (by rw [x_subI]; congr 2; omega)) (eZ zV) (eZ (zG zV)) (by rw [← hlen]; exact getLast_app) rfl (big2 (Nat.le_trans (putD_len _ _ _) (by omega)) (Nat.le_refl 1000))
  have es2 : (S1 ++ [O.dct kvs1]).set S'.length (.dct kvs2) = S1 ++ [O.dct kvs2] := by rw [← hlen]; exact put_last (E := S)
  have pt3 : sPut (dVar 6) (dBin oGet (dVar 1) (dC (.int 1))) (dBin oSub (dFn fLen (dCons (dFld "cells" (dVar 0)) dNil)) (dC (.int 1))) [some (D.ref L.run), some (enc (.own x a bd)), some (.ref r), none, none, none, some (.ref S'.length), some (.int (den rs a env st).1), none, none] (S1 ++ [O.dct kvs1]) = .ok (.nx [some (D.ref L.run), some (enc (.own x a bd)), some (.ref r), none, none, none, some (.ref S'.length), some (.int (den rs a env st).1), none, none]) (S1 ++ [O.dct kvs2]) := by
    rw [← es2]
    exact pt2
  refine eSeq (eIfT (eZB (zEqS (zG zV))) (eSeq (eExpr ap1) pt3)) (eRet (eMeth (eZ zV) (R1.app _).run rfl (eCons (eZ (zG zV)) (eCons (eZ zV) eNil)) e2))
end
end DL

set_option Elab.async false
set_option linter.all false
set_option maxRecDepth 100000
set_option maxHeartbeats 1000000
namespace DL
open PySem L2
section
variable {L : Pl} {S S0 : Sto} {st : Stt} {ε : Env} {c r m n b M : Nat} {env : Ev} {K : List Str} {x : Str} {t : Thk} {p : D} {rs : List RS}
theorem pairs_ix : ∀ {xs ys : List D} {i : Nat} {a b : D}, xs[i]? = some a → ys[i]? = some b → (pairs xs ys)[i]? = some (.tup [a, b])
  | [], _, _, _, _, h, _ => by simp at h
  | x :: xs, [], _, _, _, _, h => by simp at h
  | x :: xs, y :: ys, 0, a, b, h1, h2 => by
    simp at h1 h2
    subst h1; subst h2
    rfl
  | x :: xs, y :: ys, i + 1, a, b, h1, h2 => by
    simp at h1 h2
    show (pairs xs ys)[i]? = _
    exact pairs_ix h1 h2
theorem unt_enc (x : Str) (p : Deed) : unt (.tup [.str x, enc p]) = true := by cases p <;> rfl
theorem pairs_unt : ∀ (xs : List Str) (ps : List Deed), (pairs (xs.map D.str) (encs ps)).all unt = true
  | [], _ => by simp [pairs]
  | _ :: _, [] => by simp [pairs, encs]
  | x :: xs, p :: ps => by
    show (unt (.tup [.str x, enc p]) && (pairs (xs.map D.str) (encs ps)).all unt) = true
    rw [unt_enc, pairs_unt xs ps]; rfl
theorem pairs_ln : ∀ {xs ys : List D}, xs.length = ys.length → (pairs xs ys).length = xs.length
  | [], [], _ => rfl
  | x :: xs, y :: ys, h => by
    show (pairs xs ys).length + 1 = xs.length + 1
    rw [pairs_ln (by simpa using h)]
  | [], y :: ys, h => by simp at h
  | x :: xs, [], h => by simp at h
theorem parts_loop {names : List Str} {ps : List Deed} (hlen : names.length = ps.length) (h1000 : ps.length ≤ 1000) (ge : GrowE env) (gr : GrowR rs) (hI : ∀ q ∈ ps, Impl L S0 c (den rs q env) (enc q) r M) (hn : M ≤ n) {e0 e1 e3 e4 e5 e6 e7 : Option D} :
    ∀ (k i : Nat) (acc : List D) (S : Sto) (st : Stt), i + k = ps.length → acc.length ≤ i → Frm L S0 S → Rep L S st → c ≤ st.cells.length → Fits (denL rs (ps.drop i) env st).2 →
      ∃ S', lcX (fun _ => some (pairs (names.map .str) (encs ps))) (gT 2 (gsCons (gN 8) (gsCons (gN 9) gsNil))) (dTup (dCons (dVar 8) (dCons (dMeth "Run" "worth" 3 (csem n .m_Run_worth) (dVar 0) (dCons (dVar 9) (dCons (dVar 2) dNil))) dNil))) [8, 9] [some (.ref L.run), e1, some (.ref r), e3, e4, e5, e6, e7, none, none] (k + 1) i acc S
        = .ok (acc ++ ((names.drop i).zip (denL rs (ps.drop i) env st).1).map fun q => .tup [.str q.1, .int q.2]) S' ∧ Frm L S S' ∧ Rep L S' (denL rs (ps.drop i) env st).2
  | 0, i, acc, S, st, hi, ha, F, R, hc, hf => by
    have e1 : ps.drop i = [] := List.drop_eq_nil_of_le (by omega)
    have e2 : (pairs (names.map D.str) (encs ps))[i]? = none := List.getElem?_eq_none (by rw [pairs_ln (by rw [encs_map]; simpa using hlen), List.length_map]; omega)
    rw [e1] at hf ⊢
    unfold denL at hf ⊢
    refine ⟨S, ?_, Frm.refl, R⟩
    unfold lcX
    simp only [e2]
    simp
  | k + 1, i, acc, S, st, hi, ha, F, R, hc, hf => by
    have hip : i < ps.length := by omega
    have hin : i < names.length := by omega
    have d1 : ps.drop i = ps[i] :: ps.drop (i + 1) := List.drop_eq_getElem_cons hip
    have d2 : names.drop i = names[i] :: names.drop (i + 1) := List.drop_eq_getElem_cons hin
    rw [d1] at hf ⊢
    unfold denL at hf ⊢
    have g := den_grow gr ps[i] ge st
    have hfa : Fits (den rs ps[i] env st).2 := Fits.of (denL_grow gr _ ge _) hf
    obtain ⟨S1, e1', f1, R1⟩ := eW (ε := [some (.ref L.run), e1, some (.ref r), e3, e4, e5, e6, e7, some (.str names[i]), some (enc ps[i])]) (a := dVar 9) (bb := dVar 2) (hI ps[i] (List.getElem_mem hip)) hn F R hc hfa rfl zV zV
    obtain ⟨S2, e2, f2, R2⟩ := parts_loop (e0 := e0) hlen h1000 ge gr hI hn (e1 := e1) (e3 := e3) (e4 := e4) (e5 := e5) (e6 := e6) (e7 := e7) k (i + 1) (acc ++ [.tup [.str names[i], .int (den rs ps[i] env st).1]]) S1 _ (by omega) (by simp; omega) (F.trans f1) R1 (Nat.le_trans hc g.c) hf
    refine ⟨S2, ?_, f1.trans f2, R2⟩
    have gp : (pairs (names.map D.str) (encs ps))[i]? = some (.tup [.str names[i], enc ps[i]]) := pairs_ix (by rw [List.getElem?_map, List.getElem?_eq_getElem hin]; rfl) (by rw [encs_map, List.getElem?_map, List.getElem?_eq_getElem hip]; rfl)
    have gg : gT 2 (gsCons (gN 8) (gsCons (gN 9) gsNil)) (.tup [.str names[i], enc ps[i]]) (wipeE [some (.ref L.run), e1, some (.ref r), e3, e4, e5, e6, e7, none, none] [8, 9]) S = some [some (.ref L.run), e1, some (.ref r), e3, e4, e5, e6, e7, some (.str names[i]), some (enc ps[i])] := rfl
    have et : dTup (dCons (dVar 8) (dCons (dMeth "Run" "worth" 3 (csem n .m_Run_worth) (dVar 0) (dCons (dVar 9) (dCons (dVar 2) dNil))) dNil)) [some (.ref L.run), e1, some (.ref r), e3, e4, e5, e6, e7, some (.str names[i]), some (enc ps[i])] S = .ok (.tup [.str names[i], .int (den rs ps[i] env st).1]) S1 := eTup (eCons (eZ zV) (eCons e1' eNil))
    unfold lcX
    simp only [gp, gg, x_bind, et]
    rw [if_pos (show acc.length < big from Nat.lt_of_le_of_lt (show acc.length ≤ 1000 by omega) (by decide)), e2, d2, List.zip_cons_cons, List.map_cons]
    simp only [List.append_assoc, List.singleton_append]
theorem fall_pairs {α : Type} {f : α → Str} {g : α → D} : ∀ l : List α, fall pairD (l.map fun q => D.tup [.str (f q), g q]) = some (l.map fun q => (.inr (f q), g q))
  | [] => rfl
  | a :: l => fall_cons rfl (fall_pairs l)
theorem fDict_list {ds : List D} {kvs : List (Key × D)} (h : S[r]? = some (.lst ds)) (hk : fall pairD ds = some kvs) : fDict [.ref r] S = .ok (.ref S.length) (S ++ [.dct (mergeD [] kvs)]) := by
  unfold fDict
  simp only [dctAt, litems, h, hk]
theorem putD_new {κ : Type} [DecidableEq κ] {k : κ} {v : D} {kvs : List (κ × D)} (h : k ∉ kvs.map (·.1)) : putD kvs k v = kvs ++ [(k, v)] := by
  unfold putD
  rw [if_neg]
  intro q
  obtain ⟨x, hx, e⟩ := List.any_eq_true.mp q
  exact h (List.mem_map.mpr ⟨x, hx, by simpa using e⟩)
theorem mergeD_new : ∀ (more kvs : List (Key × D)), ((kvs ++ more).map (·.1)).Nodup → mergeD kvs more = kvs ++ more
  | [], kvs, _ => by simp [mergeD]
  | a :: more, kvs, h => by
    have e : mergeD kvs (a :: more) = mergeD (putD kvs a.1 a.2) more := rfl
    have h1 : a.1 ∉ kvs.map (·.1) := by
      rw [List.map_append, List.map_cons] at h
      have := (List.nodup_append.mp h).2.2
      intro q
      exact this _ q _ List.mem_cons_self rfl
    rw [e, putD_new h1, mergeD_new more (kvs ++ [(a.1, a.2)]) (by simpa using h)]
    simp
theorem valD_lookup {l : List (Str × D)} {y : Str} : valD (l.map fun q => ((.inr q.1 : Key), q.2)) (.inr y) = l.lookup y := by
  unfold valD
  induction l with
  | nil => rfl
  | cons a l ih =>
    obtain ⟨k, v⟩ := a
    by_cases h : k = y
    · subst h; simp
    · have h2 : ¬ y = k := fun q => h q.symm
      have h3 : (y == k) = false := by simpa using h2
      simp only [List.map_cons, List.find?_cons, Sum.inr.injEq, h, decide_false, List.lookup_cons, h3]
      exact ih
theorem zip_ok : ∀ {xs : List Str} {es : List EV} {ds : List D}, xs.length = es.length → es.length = ds.length → (∀ (i : Nat) (y : Str) (e : EV) (d : D), xs[i]? = some y → es[i]? = some e → ds[i]? = some d → EvOk L S c m y e (some d)) → ∀ y, match (xs.zip es).lookup y with
    | none => (xs.zip ds).lookup y = none
    | some v => EvOk L S c m y v ((xs.zip ds).lookup y)
  | [], _, _, _, _, _, y => by simp
  | x :: xs, [], _, h, _, _, _ => by simp at h
  | x :: xs, e :: es, [], _, h, _, _ => by simp at h
  | x :: xs, e :: es, d :: ds, h1, h2, h, y => by
    simp only [List.zip_cons_cons, List.lookup_cons]
    by_cases q : y = x
    · subst q
      simpa using h 0 y e d rfl rfl rfl
    · have q2 : (y == x) = false := by simpa using q
      rw [q2]
      exact zip_ok (by simpa using h1) (by simpa using h2) (fun i y e d a b c => h (i + 1) y e d (by simpa using a) (by simpa using b) (by simpa using c)) y
theorem zip_in {α : Type} : ∀ {xs : List Str} {es : List α} {y : Str}, xs.length = es.length → y ∈ xs → (xs.zip es).lookup y ≠ none
  | [], _, _, _, h => by simp at h
  | x :: xs, [], _, h, _ => by simp at h
  | x :: xs, e :: es, y, h1, h => by
    simp only [List.zip_cons_cons, List.lookup_cons]
    by_cases q : y = x
    · subst q; simp
    · have q2 : (y == x) = false := by simpa using q
      rw [q2]
      exact zip_in (by simpa using h1) (by rcases List.mem_cons.mp h with e | e; · exact absurd e q
                                           · exact e)
end
end DL

set_option Elab.async false
set_option linter.all false
set_option maxRecDepth 100000
set_option maxHeartbeats 1000000
namespace DL
open PySem L2
theorem nodup_map {α β : Type} {f : α → β} (hf : ∀ a b, f a = f b → a = b) {l : List α} (h : l.Nodup) : (l.map f).Nodup := List.Pairwise.map f (fun a b q e => q (hf a b e)) h
theorem dLcX_of {it : IDen} {g : GDen} {e : Den} {vs : List Nat} {ε : Env} {S S' S'' : Sto} {xs ds : List D} (hi : it ε S = .ok (fun _ => some xs) S') (hl : lcX (fun _ => some xs) g e vs ε (xs.length + 1) 0 [] S' = .ok ds S'') : dLcX it g e vs ε S = .ok (.ref S''.length) (S'' ++ [.lst ds]) := by
  unfold dLcX
  rw [hi, x_bind]
  simp only [hl, x_bind, lcEnd]
theorem eUpd {o a : Den} {ε : Env} {S S' : Sto} {n m : Nat} {kvs more : List (Key × D)} (ho : o ε S = .ok (.ref n) S) (hn : S[n]? = some (.dct kvs)) (ha : a ε S = .ok (.ref m) S') (hn' : S'[n]? = some (.dct kvs)) (hm : S'[m]? = some (.dct more)) (hne : n ≠ m) (hl : kvs.length + more.length ≤ 1000) : dUpd o a ε S = .ok .non (S'.set n (.dct (mergeD kvs more))) := by
  unfold dUpd
  rw [ho, x_bind]
  simp only [dctAt, hn, ha, x_bind, hn', hm]
  rw [if_pos ⟨hne, Nat.le_trans hl (by decide)⟩]
theorem pairs_h {r : Nat} : ∀ (xs : List Str) (hs : List Deed), (pairs (xs.map .str) (encs hs)).map (fun d => match d with | .tup [a, b] => D.tup [a, .tup [b, .ref r]] | d => d) = (xs.zip (hs.map fun d => D.tup [enc d, .ref r])).map fun q => D.tup [.str q.1, q.2]
  | [], _ => rfl
  | x :: xs, [] => rfl
  | x :: xs, h :: hs => by
    show _ :: (pairs (xs.map D.str) (encs hs)).map _ = _ :: _
    rw [pairs_h xs hs]
    rfl
def callE (r : Rule) (ws : List Int) (ts : List Thk) : Ev := envOf (r.ns.zip (ws.map .int) ++ r.hs.zip (ts.map .th))
def RulOk (L : Pl) (rules : List Rule) (rs : List RS) (j A : Nat) : Prop := ∀ i < j, ∃ r f, rules[i]? = some r ∧ rs[i]? = some f ∧ (r.ns ++ r.hs).Nodup ∧ (∀ x ∈ r.ns, kd x = 1) ∧ (∀ x ∈ r.hs, kd x = 3) ∧ r.ns.length ≤ 100 ∧ r.hs.length ≤ 100 ∧
  ∀ S c ρ m ws ts, ws.length = r.ns.length → ts.length = r.hs.length → EnvOk L S c ρ m (r.ns.length + r.hs.length) (callE r ws ts) (r.ns ++ r.hs) → (∀ t ∈ ts, Grow t) → Impl L S c (f ws ts) (enc r.b) ρ (m + A)
theorem denL_len (rs : List RS) : ∀ (ps : List Deed) (env : Ev) (st : Stt), (denL rs ps env st).1.length = ps.length
  | [], _, _ => rfl
  | p :: ps, env, st => by
    unfold denL
    simp [denL_len rs ps]
theorem denT_map (rs : List RS) : ∀ (ps : List Deed) (env : Ev), denT rs ps env = ps.map fun d => den rs d env
  | [], _ => rfl
  | p :: ps, env => by
    unfold denT
    rw [denT_map rs ps]
    rfl
section
variable {L : Pl} {S S0 : Sto} {st : Stt} {ε : Env} {c r m n b M A j : Nat} {env : Ev} {K : List Str} {x : Str} {t : Thk} {p : D} {rs : List RS} {rules : List Rule}
theorem impl_call {i : Nat} {ps hs : List Deed} (hL : L.rules = encRs rules) (RO : RulOk L rules rs j A) (hij : i < j) (hsz : (szs rules)[i]? = some (ps.length, hs.length)) (hr : r ∉ L.mut) (ge : GrowE env) (gr : GrowR rs) (Ip : ∀ q ∈ ps, Impl L S0 c (den rs q env) (enc q) r M) (Ih : ∀ q ∈ hs, Impl L S0 c (den rs q env) (enc q) r M) (hM : 1 ≤ M) :
    Impl L S0 c (den rs (.call i ps hs) env) (enc (.call i ps hs)) r (M + A + 2) := by
  intro n hn S st F R hc hf
  obtain ⟨n, rfl⟩ : ∃ k, n = k + 3 := ⟨n - 3, by omega⟩
  obtain ⟨ru, f, e1, e2, nd, k1, k3, l1, l2, body⟩ := RO i hij
  have hl1 : ru.ns.length = ps.length ∧ ru.hs.length = hs.length := by
    unfold szs at hsz
    rw [List.getElem?_map, e1] at hsz
    simpa using hsz
  obtain ⟨hp, hh⟩ := hl1
  have gp := denL_grow gr ps ge st
  have gf : Grow (f (denL rs ps env st).1 (denT rs hs env)) := gr f (List.mem_of_getElem? e2) _ _ (denT_grow gr hs ge)
  unfold den at hf ⊢
  simp only [e2, Option.getD_some] at hf ⊢
  have hfp : Fits (denL rs ps env st).2 := Fits.of (gf _) hf
  -- the worths
  obtain ⟨S1, lp, f1, R1⟩ := parts_loop (e0 := none) (n := n + 1) (names := ru.ns) (ps := ps) hp (by omega) ge gr Ip (by omega) (e1 := some (enc (.call i ps hs))) (e3 := some (tstr ru.ns)) (e4 := some (tstr ru.hs)) (e5 := some (enc ru.b)) (e6 := none) (e7 := none) ps.length 0 [] S st (by omega) (by simp) F R hc (by simpa using hfp)
  simp only [List.drop_zero, List.nil_append] at lp f1 R1
  let ws := (denL rs ps env st).1
  have hws : ws.length = ru.ns.length := by rw [hp]; exact denL_len rs ps env st
  have nd1 : ru.ns.Nodup := (List.nodup_append.mp nd).1
  let z1 : List (Str × D) := ru.ns.zip (ws.map .int)
  let z2 : List (Str × D) := ru.hs.zip (hs.map fun d => .tup [enc d, .ref r])
  have zk1 : z1.map (·.1) = ru.ns := List.map_fst_zip (by simp [hws])
  have zk2 : z2.map (·.1) = ru.hs := List.map_fst_zip (by simp [hh])
  let toL : List (Str × D) → List D := fun z => z.map fun q => .tup [.str q.1, q.2]
  let toK : List (Str × D) → List (Key × D) := fun z => z.map fun q => (.inr q.1, q.2)
  have hl1 : ((ru.ns.zip (denL rs ps env st).1).map fun q => D.tup [.str q.1, .int q.2]) = toL z1 := by
    show _ = (ru.ns.zip (ws.map D.int)).map _
    rw [List.zip_map_right, List.map_map]
    rfl
  rw [hl1] at lp
  have keysK : ∀ z : List (Str × D), (toK z).map (·.1) = (z.map (·.1)).map Sum.inr := fun z => by
    show (z.map fun q => ((.inr q.1 : Key), q.2)).map (·.1) = _
    rw [List.map_map, List.map_map]
    rfl
  have em1 : mergeD [] (toK z1) = toK z1 := by
    rw [mergeD_new _ [] (by rw [List.nil_append, keysK, zk1]; exact nodup_map (fun a b q => Sum.inr.inj q) nd1)]
    rfl
  have em2 : mergeD [] (toK z2) = toK z2 := by
    rw [mergeD_new _ [] (by rw [List.nil_append, keysK, zk2]; exact nodup_map (fun a b q => Sum.inr.inj q) (List.nodup_append.mp nd).2.1)]
    rfl
  have em3 : mergeD (toK z1) (toK z2) = toK (z1 ++ z2) := by
    have e : toK (z1 ++ z2) = toK z1 ++ toK z2 := List.map_append
    rw [mergeD_new _ _ (by rw [← e, keysK, List.map_append, zk1, zk2]; exact nodup_map (fun a b q => Sum.inr.inj q) nd), e]
  let S2 : Sto := S1 ++ [.lst (toL z1)]
  let ε1 : Env := [some (.ref L.run), some (enc (.call i ps hs)), some (.ref r), some (tstr ru.ns), some (tstr ru.hs), some (enc ru.b), none, none, none, none]
  let ε2 : Env := [some (.ref L.run), some (enc (.call i ps hs)), some (.ref r), some (tstr ru.ns), some (tstr ru.hs), some (enc ru.b), some (.ref S2.length), none, none, none]
  -- the first dict
  have it1 : iZipD (dVar 3) (dBin oGet (dVar 1) (dC (.int 2))) ε1 S = .ok (fun _ => some (pairs (ru.ns.map .str) (encs ps))) S := by
    unfold iZipD
    have a1 : dVar 3 ε1 S = .ok (tstr ru.ns) S := eZ zV
    have a2 : dBin oGet (dVar 1) (dC (.int 2)) ε1 S = .ok (.tup (encs ps)) S := eZ (zG zV)
    rw [a1, x_bind, a2, x_bind]
    exact if_pos (pairs_unt ru.ns ps)
  have pl : (pairs (ru.ns.map D.str) (encs ps)).length = ps.length := by rw [pairs_ln (by rw [encs_map]; simpa using hp), List.length_map, hp]
  have lc1 := dLcX_of (vs := [8, 9]) it1 (by rw [pl]; exact lp)
  have fd1 : fDict [.ref S1.length] S2 = .ok (.ref S2.length) (S2 ++ [.dct (toK z1)]) := by
    have := fDict_list (getLast_app (A := S1) (x := O.lst (toL z1))) (fall_pairs (f := Prod.fst) (g := Prod.snd) z1)
    rw [this]
    show _ = DL.R.ok _ (S2 ++ [.dct (toK z1)])
    rw [← em1]
  -- the second
  have it2 : PurI [] (iZipD (dVar 4) (dBin oGet (dVar 1) (dC (.int 3)))) ε2 (pairs (ru.hs.map .str) (encs hs)) := piZip (xs := ru.hs.map .str) (ys := encs hs) pV (pO (d := enc (.call i ps hs)) (e := .int 3) pV pC fun S => rfl) (pairs_unt ru.hs hs)
  have ll2 : (pairs (ru.hs.map D.str) (encs hs)).length ≤ 1000 := by rw [pairs_ln (by rw [encs_map]; simpa using hh), List.length_map]; omega
  obtain ⟨E, lc2⟩ := pLc1 (g := gT 2 (gsCons (gN 8) (gsCons (gN 9) gsNil))) (vs := [8, 9]) (e := dTup (dCons (dVar 8) (dCons (dTup (dCons (dVar 9) (dCons (dVar 2) dNil))) dNil))) (h := fun d => match d with | .tup [a, b] => D.tup [a, .tup [b, .ref r]] | d => d) it2 (fun x hx => by
    obtain ⟨k, hk⟩ := List.getElem?_of_mem hx
    have hkl := (List.getElem?_eq_some_iff.mp hk).1
    rw [pairs_ln (by rw [encs_map]; simpa using hh), List.length_map] at hkl
    have hkh : k < hs.length := by omega
    have e := pairs_ix (xs := ru.hs.map D.str) (ys := encs hs) (i := k) (a := .str ru.hs[k]) (b := enc hs[k]) (by rw [List.getElem?_map, List.getElem?_eq_getElem hkl]; rfl) (by rw [encs_map, List.getElem?_map, List.getElem?_eq_getElem hkh]; rfl)
    rw [hk] at e
    cases e
    exact ⟨_, fun S => rfl, pT (pK pV (pK (pT (pK pV (pK pV pN))) pN))⟩) ll2 (S2 ++ [.dct (toK z1)]) List.nil_prefix
  rw [pairs_h] at lc2
  let S4 : Sto := S2 ++ [.dct (toK z1)] ++ E ++ [.lst (toL z2)]
  have fd2 : fDict [.ref (S2 ++ [O.dct (toK z1)] ++ E).length] S4 = .ok (.ref S4.length) (S4 ++ [.dct (toK z2)]) := by
    have := fDict_list (getLast_app (A := S2 ++ [O.dct (toK z1)] ++ E) (x := O.lst (toL z2))) (fall_pairs (f := Prod.fst) (g := Prod.snd) z2)
    rw [this]
    show _ = DL.R.ok _ (S4 ++ [.dct (toK z2)])
    rw [← em2]
  let B : Sto := E ++ [.lst (toL z2)] ++ [.dct (toK z2)]
  have eS5 : S4 ++ [.dct (toK z2)] = S2 ++ [.dct (toK z1)] ++ B := by simp [S4, B]
  have up := eUpd (ε := ε2) (o := dVar 6) (a := dFn fDict (dCons (dLc (iZipD (dVar 4) (dBin oGet (dVar 1) (dC (.int 3)))) (gT 2 (gsCons (gN 8) (gsCons (gN 9) gsNil))) bYes (dTup (dCons (dVar 8) (dCons (dTup (dCons (dVar 9) (dCons (dVar 2) dNil))) dNil))) [8, 9]) dNil)) (S := S2 ++ [.dct (toK z1)]) (n := S2.length) (kvs := toK z1) (more := toK z2)
    (eZ zV) getLast_app (eFn (eCons lc2 eNil) fd2) (by rw [eS5]; exact mid_get) getLast_app (by simp [S4]) (by simp [toK, z1, z2, hws, hh]; omega)
  rw [eS5, mid_set, em3] at up
  let S6 : Sto := S2 ++ [.dct (toK (z1 ++ z2))] ++ B
  have eS6 : S6 = S1 ++ ([.lst (toL z1)] ++ [.dct (toK (z1 ++ z2))] ++ B) := by simp [S6, S2]
  have R6 : Rep L S6 (denL rs ps env st).2 := by rw [eS6]; exact R1.app _
  have f6 : Frm L S S6 := by rw [eS6]; exact f1.trans Frm.app
  have hd1 : S2.length ∉ L.mut := fun h => by
    have := R1.lt _ h
    simp [S2] at this
    omega
  have E6 : EnvOk L S6 c S2.length M (ru.ns.length + ru.hs.length) (callE ru ws (denT rs hs env)) (ru.ns ++ ru.hs) := by
    refine ⟨⟨toK (z1 ++ z2), mid_get, by simp [toK, z1, z2, hws, hh], fun y => ?_⟩, hd1, fun y hy => ?_⟩
    · rw [valD_lookup, List.lookup_append]
      unfold callE envOf
      rw [List.lookup_append]
      have q1 := zip_ok (L := L) (S := S6) (c := c) (m := M) (xs := ru.ns) (es := ws.map EV.int) (ds := ws.map D.int) (by simp [hws]) (by simp) (fun i y e d a b c => by
        rw [List.getElem?_map] at b c
        cases hw : ws[i]? with
        | none => rw [hw] at b; cases b
        | some w =>
          rw [hw] at b c
          cases b; cases c
          exact ⟨rfl, k1 y (List.mem_of_getElem? a)⟩) y
      have q2 := zip_ok (L := L) (S := S6) (c := c) (m := M) (xs := ru.hs) (es := (denT rs hs env).map EV.th) (ds := hs.map fun d => D.tup [enc d, .ref r]) (by simp [denT_map, hh]) (by simp [denT_map]) (fun i y e d a b c => by
        rw [denT_map, List.map_map, List.getElem?_map] at b
        rw [List.getElem?_map] at c
        cases hw : hs[i]? with
        | none => rw [hw] at b; cases b
        | some w =>
          rw [hw] at b c
          cases b; cases c
          exact ⟨⟨_, _, rfl, (Ih w (List.mem_of_getElem? hw)).up (F.trans f6) (Nat.le_refl _) (Nat.le_refl _)⟩, k3 y (List.mem_of_getElem? a)⟩) y
      cases h1 : (ru.ns.zip (ws.map EV.int)).lookup y with
      | some v =>
        rw [h1] at q1
        cases h2 : (ru.ns.zip (ws.map D.int)).lookup y with
        | none =>
          rw [h2] at q1
          cases v with
          | int v => exact absurd q1.1 (by simp)
          | cell i => exact absurd q1.1 (by simp)
          | th t => obtain ⟨⟨_, _, q, _⟩, _⟩ := q1; cases q
        | some d =>
          rw [h2] at q1
          exact q1
      | none =>
        rw [h1] at q1
        have q1' : (ru.ns.zip (ws.map D.int)).lookup y = none := q1
        show match (ru.hs.zip ((denT rs hs env).map EV.th)).lookup y with | none => ((z1.lookup y).or (z2.lookup y)) = none | some v => EvOk L S6 c M y v ((z1.lookup y).or (z2.lookup y))
        rw [show z1.lookup y = none from q1', Option.none_or]
        exact q2
    · unfold callE envOf
      rw [List.lookup_append]
      rcases List.mem_append.mp hy with h | h
      · have := zip_in (es := ws.map EV.int) (by simp [hws]) h
        cases q : (ru.ns.zip (ws.map EV.int)).lookup y with
        | none => exact absurd q this
        | some v => simp
      · have := zip_in (es := (denT rs hs env).map EV.th) (by simp [denT_map, hh]) h
        cases q : (ru.ns.zip (ws.map EV.int)).lookup y with
        | some v => simp
        | none =>
          rw [Option.none_or]
          exact this
  obtain ⟨S7, e7, f7, R7⟩ := body S6 c S2.length M ws (denT rs hs env) hws (by simp [denT_map, hh]) E6 (denT_grow gr hs ge) (n + 1) (by omega) S6 _ Frm.refl R6 (Nat.le_trans hc gp.c) hf
  refine ⟨S7, worth_with R (by simp) ?_, f6.trans f7, R7⟩
  rw [cs_m_Run_with_names]
  refine run_rt ?_
  unfold b_m_Run_with_names
  refine eTake (eZB (zEqS (zG zV))) ?_
  have hrule : oGet L.rules (.int (i : Int)) S = .ok (encR ru) S := by
    rw [hL]
    unfold encRs
    have il : i < rules.length := (List.getElem?_eq_some_iff.mp e1).1
    have : atI (rules.map encR) (i : Int) = some (encR ru) := by
      rw [atI_in (by omega) (by simpa using il), Int.toNat_natCast, List.getElem?_map, e1]
      rfl
    rw [x_getT, this]
  refine eLet (eBin (eFld (eZ zV) R.run rfl) (eZ (zG zV)) hrule) ?_
  refine eLet (eFn (eCons lc1 eNil) fd1) ?_
  refine eSeq (eExpr up) ?_
  exact eRet (eMeth (eZ zV) R6.run rfl (eCons (eZ zV) (eCons (eZ zV) eNil)) e7)
end
end DL

set_option Elab.async false
set_option linter.all false
set_option maxRecDepth 100000
set_option maxHeartbeats 1000000
namespace DL
open PySem L2
theorem putE_grow_int {env : Ev} (h : GrowE env) (x : Str) (v : Int) : GrowE (putE x (.int v) env) := h.put fun t e => by cases e
theorem putE_grow_cell {env : Ev} (h : GrowE env) (x : Str) (i : Nat) : GrowE (putE x (.cell i) env) := h.put fun t e => by cases e
section
variable {L : Pl} {rs : List RS} {rules : List Rule} {j A : Nat}
mutual
theorem den_impl (ap : Apart L) (hL : L.rules = encRs rules) (RO : RulOk L rules rs j A) (gr : GrowR rs) : ∀ (d : Deed) (k : Nat) {K : List Str} {env : Ev} {S0 : Sto} {c r m b : Nat}, dep d ≤ k → okD (szs (rules.take j)) K d → EnvOk L S0 c r m b env K → b + k ≤ 1000 → GrowE env → Impl L S0 c (den rs d env) (enc d) r (m + 5 + k * (A + 2))
  | .num i, k, K, env, S0, c, r, m, b, _, _, E, _, _ => impl_num.up Frm.refl (Nat.le_refl _) (by omega)
  | .nam x, k, K, env, S0, c, r, m, b, _, h, E, _, _ => (impl_nam E h.1 h.2).up Frm.refl (Nat.le_refl _) (by omega)
  | .dod x, k, K, env, S0, c, r, m, b, _, h, E, _, _ => (impl_dod E h.1 h.2).up Frm.refl (Nat.le_refl _) (by omega)
  | .ask, k, K, env, S0, c, r, m, b, _, _, E, _, _ => (impl_ask ap).up Frm.refl (Nat.le_refl _) (by omega)
  | .rd x, k, K, env, S0, c, r, m, b, _, h, E, _, _ => (impl_rd ap E h).up Frm.refl (Nat.le_refl _) (by omega)
  | .wr x a, 0, K, env, S0, c, r, m, b, hk, _, _, _, _ => by simp [dep] at hk
  | .say a, 0, K, env, S0, c, r, m, b, hk, _, _, _, _ => by simp [dep] at hk
  | .lt x a e, 0, K, env, S0, c, r, m, b, hk, _, _, _, _ => by simp [dep] at hk
  | .own x a e, 0, K, env, S0, c, r, m, b, hk, _, _, _, _ => by simp [dep] at hk
  | .iff a e f, 0, K, env, S0, c, r, m, b, hk, _, _, _, _ => by simp [dep] at hk
  | .two w a e, 0, K, env, S0, c, r, m, b, hk, _, _, _, _ => by simp [dep] at hk
  | .call i ps hs, 0, K, env, S0, c, r, m, b, hk, _, _, _, _ => by simp [dep] at hk
  | .wr x a, k + 1, K, env, S0, c, r, m, b, hk, h, E, hb, ge => by
    simp only [dep] at hk
    have := impl_wr (x := x) ap E ge gr (den_impl ap hL RO gr a k (by omega) h.2 E (by omega) ge) (by omega) h.1
    exact this.up Frm.refl (Nat.le_refl _) (by rw [Nat.succ_mul]; omega)
  | .say a, k + 1, K, env, S0, c, r, m, b, hk, h, E, hb, ge => by
    simp only [dep] at hk
    have := impl_say ap (den_impl ap hL RO gr a k (by omega) h E (by omega) ge) (by omega)
    exact this.up Frm.refl (Nat.le_refl _) (by rw [Nat.succ_mul]; omega)
  | .lt x a e, k + 1, K, env, S0, c, r, m, b, hk, h, E, hb, ge => by
    simp only [dep] at hk
    have := impl_lt (x := x) (bd := e) E (by omega) ge gr h.1 (den_impl ap hL RO gr a k (by omega) h.2.1 E (by omega) ge) (fun v S1 r1 c1 E1 => den_impl ap hL RO gr e k (by omega) h.2.2 E1 (by omega) (putE_grow_int ge x v)) (by omega)
    exact this.up Frm.refl (Nat.le_refl _) (by rw [Nat.succ_mul]; omega)
  | .own x a e, k + 1, K, env, S0, c, r, m, b, hk, h, E, hb, ge => by
    simp only [dep] at hk
    have := impl_own (x := x) (bd := e) ap E (by omega) ge gr h.1 (den_impl ap hL RO gr a k (by omega) h.2.1 E (by omega) ge) (fun v S1 r1 c1 E1 => den_impl ap hL RO gr e k (by omega) h.2.2 E1 (by omega) (putE_grow_cell ge x v)) (by omega)
    exact this.up Frm.refl (Nat.le_refl _) (by rw [Nat.succ_mul]; omega)
  | .iff a e f, k + 1, K, env, S0, c, r, m, b, hk, h, E, hb, ge => by
    simp only [dep] at hk
    have := impl_iff ge gr (den_impl ap hL RO gr a k (by omega) h.1 E (by omega) ge) (den_impl ap hL RO gr e k (by omega) h.2.1 E (by omega) ge) (den_impl ap hL RO gr f k (by omega) h.2.2 E (by omega) ge) (by omega)
    exact this.up Frm.refl (Nat.le_refl _) (by rw [Nat.succ_mul]; omega)
  | .two w a e, k + 1, K, env, S0, c, r, m, b, hk, h, E, hb, ge => by
    simp only [dep] at hk
    have := impl_two (w := w) ge gr (den_impl ap hL RO gr a k (by omega) h.1 E (by omega) ge) (den_impl ap hL RO gr e k (by omega) h.2 E (by omega) ge) (by omega)
    exact this.up Frm.refl (Nat.le_refl _) (by rw [Nat.succ_mul]; omega)
  | .call i ps hs, k + 1, K, env, S0, c, r, m, b, hk, h, E, hb, ge => by
    simp only [dep] at hk
    have hsz := h.1
    rw [szs_take] at hsz
    have hij : i < j := by
      have := (List.getElem?_eq_some_iff.mp hsz).1
      rw [List.length_take] at this
      omega
    rw [List.getElem?_take_of_lt hij] at hsz
    have := impl_call hL RO hij hsz E.r ge gr (M := m + 5 + k * (A + 2)) (fun q hq => dens_impl ap hL RO gr ps k (by omega) h.2.1 E (by omega) ge q hq) (fun q hq => dens_impl ap hL RO gr hs k (by omega) h.2.2 E (by omega) ge q hq) (by omega)
    exact this.up Frm.refl (Nat.le_refl _) (by rw [Nat.succ_mul]; omega)
theorem dens_impl (ap : Apart L) (hL : L.rules = encRs rules) (RO : RulOk L rules rs j A) (gr : GrowR rs) : ∀ (ds : List Deed) (k : Nat) {K : List Str} {env : Ev} {S0 : Sto} {c r m b : Nat}, deps ds ≤ k → okDs (szs (rules.take j)) K ds → EnvOk L S0 c r m b env K → b + k ≤ 1000 → GrowE env → ∀ d ∈ ds, Impl L S0 c (den rs d env) (enc d) r (m + 5 + k * (A + 2))
  | [], k, K, env, S0, c, r, m, b, _, _, _, _, _, d, hd => by cases hd
  | a :: ds, k, K, env, S0, c, r, m, b, hk, h, E, hb, ge, d, hd => by
    simp only [deps] at hk
    by_cases e : d = a
    · rw [e]
      exact den_impl ap hL RO gr a k (by omega) h.1 E hb ge
    · exact dens_impl ap hL RO gr ds k (by omega) h.2 E hb ge d (by rcases List.mem_cons.mp hd with q | q; · exact absurd q e
                                                                    · exact q)
end
end
def rsem : List Rule → List RS := fun l => l.foldl (fun acc r => acc ++ [fun ws ts => den acc r.b (callE r ws ts)]) []
theorem rsem_snoc (l : List Rule) (r : Rule) : rsem (l ++ [r]) = rsem l ++ [fun ws ts => den (rsem l) r.b (callE r ws ts)] := by
  unfold rsem
  rw [List.foldl_append]
  rfl
theorem snoc_ind {α : Type} {P : List α → Prop} (h0 : P []) (h1 : ∀ l a, P l → P (l ++ [a])) : ∀ l, P l := fun l => by
  have : ∀ l : List α, P l.reverse := fun l => by
    induction l with
    | nil => exact h0
    | cons a l ih => rw [List.reverse_cons]; exact h1 _ _ ih
  have q := this l.reverse
  rwa [List.reverse_reverse] at q
theorem rsem_len : ∀ l : List Rule, (rsem l).length = l.length := snoc_ind rfl fun l r ih => by rw [rsem_snoc]; simp [ih]
theorem rsem_get : ∀ (l : List Rule) (i : Nat) (r : Rule), l[i]? = some r → (rsem l)[i]? = some fun ws ts => den (rsem (l.take i)) r.b (callE r ws ts) := snoc_ind (by intro i r h; simp at h) fun l a ih i r h => by
  rw [rsem_snoc]
  by_cases hi : i < l.length
  · rw [List.getElem?_append_left hi] at h
    rw [List.getElem?_append_left (by rw [rsem_len]; exact hi), List.take_append_of_le_length (by omega)]
    exact ih i r h
  · have e : i = l.length := by
      have := (List.getElem?_eq_some_iff.mp h).1
      simp at this
      omega
    subst e
    rw [List.getElem?_append_right (Nat.le_refl _), Nat.sub_self] at h
    cases h
    rw [List.getElem?_append_right (by rw [rsem_len]; exact Nat.le_refl _), rsem_len, Nat.sub_self, List.take_left]
    rfl
theorem callE_grow {r : Rule} {ws : List Int} {ts : List Thk} (h : ∀ t ∈ ts, Grow t) : GrowE (callE r ws ts) := fun x t e => by
  unfold callE envOf at e
  rw [List.lookup_append] at e
  have lk : ∀ {xs : List Str} {es : List EV} {v : EV}, (xs.zip es).lookup x = some v → v ∈ es := by
    intro xs
    induction xs with
    | nil => intro es v h; simp at h
    | cons a xs ih =>
      intro es v h
      cases es with
      | nil => simp at h
      | cons b es =>
        simp only [List.zip_cons_cons, List.lookup_cons] at h
        split at h
        · cases h; exact List.mem_cons_self
        · exact List.mem_cons_of_mem _ (ih h)
  cases h1 : (r.ns.zip (ws.map EV.int)).lookup x with
  | some v =>
    rw [h1] at e
    have m := lk h1
    cases e
    obtain ⟨w, _, q⟩ := List.mem_map.mp m
    cases q
  | none =>
    rw [h1] at e
    have m := lk (show (r.hs.zip (ts.map EV.th)).lookup x = some (.th t) from e)
    obtain ⟨w, hw, q⟩ := List.mem_map.mp m
    cases q
    exact h t hw
theorem rsem_grow : ∀ l : List Rule, GrowR (rsem l) := snoc_ind (fun f h => by cases h) fun l r ih f hf ws ts ht => by
  rw [rsem_snoc] at hf
  rcases List.mem_append.mp hf with h | h
  · exact ih f h ws ts ht
  · rw [List.mem_singleton.mp h]
    exact den_grow ih _ (callE_grow ht)
structure RsRun (rules : List Rule) : Prop where
  ok : okRs rules
  dep : ∀ r ∈ rules, dep r.b ≤ 2
  sz : ∀ r ∈ rules, r.ns.length ≤ 100 ∧ r.hs.length ≤ 100
theorem kd_apart {r : Rule} {sz : List (Nat × Nat)} (o : okRl sz r) : (r.ns ++ r.hs).Nodup := List.nodup_append.mpr ⟨o.nn, o.nh, fun a ha b hb e => by
  have h1 := o.n a ha
  have h2 := o.h b hb
  rw [e] at h1
  omega⟩
def lvl : Nat → Nat
  | 0 => 0
  | j + 1 => 5 + 2 * (lvl j + 2)
theorem lvl_mono {i j : Nat} (h : i ≤ j) : lvl i ≤ lvl j := by
  induction h with
  | refl => exact Nat.le_refl _
  | step _ ih => exact Nat.le_trans ih (by show _ ≤ 5 + 2 * (lvl _ + 2); omega)
theorem take_all {α : Type} {l : List α} {i : Nat} {a : α} (h : l[i]? = some a) (j : Nat) (hj : i < j) : (l.take j)[i]? = some a := by
  rw [List.getElem?_take_of_lt hj]
  exact h
theorem rules_run {L : Pl} {rules : List Rule} (ap : Apart L) (hL : L.rules = encRs rules) (R : RsRun rules) : ∀ j, j ≤ rules.length → RulOk L rules (rsem (rules.take j)) j (lvl j)
  | 0, _ => fun i h => by omega
  | j + 1, hj => by
    intro i hi
    have il : i < rules.length := by omega
    have ih := rules_run ap hL R i (by omega)
    have e1 : rules[i]? = some rules[i] := List.getElem?_eq_getElem il
    have o := R.ok i _ e1
    have hm := List.getElem_mem il
    have e2 := rsem_get (rules.take (j + 1)) i rules[i] (take_all e1 _ hi)
    rw [List.take_take, Nat.min_eq_left (by omega)] at e2
    refine ⟨rules[i], _, e1, e2, kd_apart o, o.n, o.h, (R.sz _ hm).1, (R.sz _ hm).2, fun S c ρ m ws ts hw ht E gt => ?_⟩
    have := den_impl ap hL ih (rsem_grow _) rules[i].b 2 (R.dep _ hm) (by simpa using o.b) E (by have := R.sz _ hm; omega) (callE_grow gt)
    exact this.up Frm.refl (Nat.le_refl _) (by
      have := lvl_mono (show i + 1 ≤ j + 1 by omega)
      simp only [lvl] at this ⊢
      omega)
structure RlA (rules : List Rule) (A : Nat) : Prop where
  ok : okRs rules
  sz : ∀ r ∈ rules, r.ns.length ≤ 100 ∧ r.hs.length ≤ 100
  imp : ∀ (L : Pl), Apart L → L.rules = encRs rules → RulOk L rules (rsem (rules.take rules.length)) rules.length A
theorem RsRun.rl {rules : List Rule} (R : RsRun rules) : RlA rules (lvl rules.length) := ⟨R.ok, R.sz, fun L ap hL => rules_run ap hL R rules.length (Nat.le_refl _)⟩
end DL

set_option Elab.async false
set_option linter.all false
set_option maxRecDepth 100000
set_option maxHeartbeats 1000000
namespace DL
open PySem L2
end DL

set_option Elab.async false
set_option linter.all false
set_option maxRecDepth 100000
set_option maxHeartbeats 1000000
namespace DL
open PySem L2
theorem pre_get {B S : Sto} {n : Nat} {o : O} (h : B <+: S) (e : B[n]? = some o) : S[n]? = some o := by
  obtain ⟨T, rfl⟩ := h
  rw [List.getElem?_append_left (List.getElem?_eq_some_iff.mp e).1]
  exact e
end DL

set_option Elab.async false
set_option linter.all false
set_option maxRecDepth 100000
set_option maxHeartbeats 1000000
namespace DL
open PySem L2
abbrev RW := List Int → Int
mutual
def wt (rw : List RW) (hw : Str → Int) : Deed → Int
  | .num _ => 1 | .nam _ => 1 | .ask => 1 | .rd _ => 1
  | .dod x => hw x
  | .wr _ a => 1 + [wt rw hw a].sum
  | .say a => 1 + [wt rw hw a].sum
  | .lt _ a b => 1 + [wt rw hw a, wt rw hw b].sum
  | .own _ a b => 1 + [wt rw hw a, wt rw hw b].sum
  | .iff a b c => 1 + [wt rw hw a, wt rw hw b, wt rw hw c].sum
  | .two .lop a b => 1 + wt rw hw a + 3 * wt rw hw b
  | .two _ a b => 1 + [wt rw hw a, wt rw hw b].sum
  | .call i ps hs => 1 + (wtL rw hw ps).sum + ((rw[i]?).getD fun _ => 0) (wtL rw hw hs)
def wtL (rw : List RW) (hw : Str → Int) : List Deed → List Int
  | [] => []
  | d :: ds => wt rw hw d :: wtL rw hw ds
end
def hwOf (hs : List Str) (ws : List Int) : Str → Int := fun x => ((hs.zip ws).lookup x).getD 1
def rwt : List Rule → List RW := fun l => l.foldl (fun acc r => acc ++ [fun ws => wt acc (hwOf r.hs ws) r.b]) []
section
variable {B : Sto}
def WEnv (B : Sto) (r : Nat) (hw : Str → Int) : Prop := ∃ kvs, B[r]? = some (.dct kvs) ∧ ∀ x, (valD kvs (.inr x)).getD (.int 1) = .int (hw x)
theorem WEnv.up {B' : Sto} {r : Nat} {hw : Str → Int} (h : WEnv B r hw) (hB : B <+: B') : WEnv B' r hw := by
  obtain ⟨kvs, e, q⟩ := h
  exact ⟨kvs, pre_get hB e, q⟩
end
end DL

set_option Elab.async false
set_option linter.all false
set_option maxRecDepth 100000
set_option maxHeartbeats 1000000
namespace DL
open PySem L2
section
end
section
end
end DL

set_option Elab.async false
set_option linter.all false
set_option maxRecDepth 100000
set_option maxHeartbeats 1000000
namespace DL
open PySem L2
section
end
end DL

set_option Elab.async false
set_option linter.all false
set_option maxRecDepth 100000
set_option maxHeartbeats 1000000
namespace DL
open PySem L2
structure Gb1 (a b : Stt) (w : Int) : Prop where
  m : (b.marks.length : Int) ≤ a.marks.length + w
  s : (b.spoken.length : Int) ≤ a.spoken.length + w
  c : (b.cells.length : Int) ≤ a.cells.length + w
def Gb (t : Thk) (w : Int) : Prop := ∀ st, Gb1 st (t st).2 w
theorem Gb1.trans {a b c : Stt} {v w : Int} (x : Gb1 a b v) (y : Gb1 b c w) : Gb1 a c (v + w) := ⟨by have := x.m; have := y.m; omega, by have := x.s; have := y.s; omega, by have := x.c; have := y.c; omega⟩
theorem Gb1.mono {a b : Stt} {v w : Int} (x : Gb1 a b v) (h : v ≤ w) : Gb1 a b w := ⟨by have := x.m; omega, by have := x.s; omega, by have := x.c; omega⟩
theorem Gb1.refl {a : Stt} {w : Int} (h : 0 ≤ w) : Gb1 a a w := ⟨by omega, by omega, by omega⟩
def GbE (env : Ev) (hw : Str → Int) : Prop := (∀ x, 0 ≤ hw x) ∧ ∀ x t, env x = some (.th t) → Gb t (hw x)
theorem GbE.put {env : Ev} {hw : Str → Int} {x : Str} {v : EV} (h : GbE env hw) (hv : ∀ t, v ≠ .th t) : GbE (putE x v env) hw := ⟨h.1, fun y t e => by
  unfold putE at e
  split at e
  · cases e; exact absurd rfl (hv t)
  · exact h.2 y t e⟩
theorem RsLaw.run {rs : List Rule} (R : RsLaw rs) : RsRun rs := ⟨R.r.ok, R.dep, R.r.len⟩
end DL

set_option Elab.async false
set_option linter.all false
set_option maxRecDepth 100000
set_option maxHeartbeats 1000000
namespace DL
open PySem L2
def In (v : Int) : Prop := 0 ≤ v ∧ v ≤ 1008
end DL

set_option Elab.async false
set_option linter.all false
set_option maxRecDepth 100000
set_option maxHeartbeats 1000000
namespace DL
open PySem L2
section
end
end DL

set_option Elab.async false
set_option linter.all false
set_option maxRecDepth 100000
set_option maxHeartbeats 1000000
namespace DL
open PySem L2
structure Clo (P : Thk → Prop) : Prop where
  ret : ∀ v : Int, P fun st => (v, st)
  bind : ∀ (t : Thk) (k : Int → Thk), P t → (∀ v, P (k v)) → P fun st => k (t st).1 (t st).2
  ask : P tAskd
  read : ∀ x, P (tRead x)
  wrt : ∀ x v, P (tWrt x v)
  say : ∀ v, P (tSayd v)
  cell : ∀ i : Nat, P fun st => ((st.cells[i]?).getD 0, st)
  setC : ∀ (i : Nat) (v : Int), P fun st => (v, st.setC i v)
  push : ∀ (v : Int) (k : Nat → Thk), (∀ i, P (k i)) → P fun st => k st.cells.length (st.push v)
def CloE (P : Thk → Prop) (env : Ev) : Prop := ∀ x t, env x = some (.th t) → P t
section
variable {P : Thk → Prop}
theorem CloE.put {env : Ev} {x : Str} {v : EV} (h : CloE P env) (hv : ∀ t, v ≠ .th t) : CloE P (putE x v env) := fun y t e => by
  unfold putE at e
  split at e
  · cases e; exact absurd rfl (hv t)
  · exact h y t e
theorem Clo.iter (C : Clo P) {t : Thk} (h : P t) : ∀ n : Nat, P fun st => (0, iterT t n st)
  | 0 => C.ret 0
  | n + 1 => C.bind t (fun _ => fun st => (0, iterT t n st)) h fun _ => C.iter h n
end
end DL

set_option Elab.async false
set_option linter.all false
set_option maxRecDepth 100000
set_option maxHeartbeats 1000000
namespace DL
open PySem L2
def aw (A : List Int) (k : Nat) : Int := (A[k]?).getD 0
def isAsk : D → Option Int
  | .tup [.str w, .int v] => if w = "ask" then some v else none
  | _ => none
def asksOf (ms : List D) : List Int := ms.filterMap isAsk
structure Asks (a b : Stt) : Prop where
  q : b.asked = a.asked
  m : a.many ≤ b.many
  l : asksOf b.marks = asksOf a.marks ++ (List.range' a.many (b.many - a.many)).map (aw a.asked)
theorem Asks.refl {a : Stt} : Asks a a := ⟨rfl, Nat.le_refl _, by simp⟩
theorem Asks.same {a b : Stt} (hq : b.asked = a.asked) (hm : b.many = a.many) (hl : asksOf b.marks = asksOf a.marks) : Asks a b := ⟨hq, by rw [hm]; exact Nat.le_refl _, by rw [hl, hm]; simp⟩
theorem Asks.trans {a b c : Stt} (x : Asks a b) (y : Asks b c) : Asks a c := by
  refine ⟨y.q.trans x.q, Nat.le_trans x.m y.m, ?_⟩
  rw [y.l, x.l, x.q, List.append_assoc, ← List.map_append]
  congr 2
  have h1 := x.m
  have h2 := y.m
  have e : c.many - a.many = (b.many - a.many) + (c.many - b.many) := by omega
  rw [e, ← List.range'_append_1]
  congr 2
  omega
end DL

set_option Elab.async false
set_option linter.all false
set_option maxRecDepth 100000
set_option maxHeartbeats 1000000
namespace DL
open PySem L2
structure Wd where
  w : Nat
  kept : Nat
  spoken : Nat
  marks : Nat
  asked : Nat
def Wd.mut (W : Wd) : List Nat := [W.w, W.kept, W.spoken, W.marks]
def wdF (W : Wd) (many : Nat) : List (Str × D) := [("kept", .ref W.kept), ("asked", .ref W.asked), ("many", .int many), ("spoken", .ref W.spoken), ("marks", .ref W.marks)]
structure WRep (W : Wd) (S : Sto) (st : Stt) : Prop where
  w : S[W.w]? = some (.ins "World" (wdF W st.many))
  kept : S[W.kept]? = some (.dct (keptD st.kept))
  spoken : S[W.spoken]? = some (.lst (st.spoken.map .int))
  marks : S[W.marks]? = some (.lst st.marks)
  asked : S[W.asked]? = some (.lst (st.asked.map .int))
structure WFrm (W : Wd) (S S' : Sto) : Prop where
  len : S.length ≤ S'.length
  keep : ∀ n o, n ∉ W.mut → S[n]? = some o → S'[n]? = some o
theorem WFrm.refl {W : Wd} {S : Sto} : WFrm W S S := ⟨Nat.le_refl _, fun _ _ _ h => h⟩
theorem WFrm.trans {W : Wd} {S S' S'' : Sto} (a : WFrm W S S') (b : WFrm W S' S'') : WFrm W S S'' := ⟨Nat.le_trans a.len b.len, fun n o h e => b.keep n o h (a.keep n o h e)⟩
theorem WFrm.app {W : Wd} {S E : Sto} : WFrm W S (S ++ E) := ⟨by simp, fun n o _ e => pre_get (List.prefix_append _ _) e⟩
theorem WRep.app {W : Wd} {S : Sto} {st : Stt} (R : WRep W S st) (E : Sto) : WRep W (S ++ E) st := by
  have g : ∀ {n o}, S[n]? = some o → (S ++ E)[n]? = some o := fun {n o} e => pre_get (List.prefix_append _ _) e
  exact ⟨g R.w, g R.kept, g R.spoken, g R.marks, g R.asked⟩
theorem WRep.lt {W : Wd} {S : Sto} {st : Stt} (R : WRep W S st) : (∀ k ∈ W.mut, k < S.length) ∧ W.asked < S.length := by
  refine ⟨fun k h => ?_, (List.getElem?_eq_some_iff.mp R.asked).1⟩
  simp only [Wd.mut, List.mem_cons, List.not_mem_nil, or_false] at h
  rcases h with rfl | rfl | rfl | rfl
  · exact (List.getElem?_eq_some_iff.mp R.w).1
  · exact (List.getElem?_eq_some_iff.mp R.kept).1
  · exact (List.getElem?_eq_some_iff.mp R.spoken).1
  · exact (List.getElem?_eq_some_iff.mp R.marks).1
def Stt.fresh (s : Stt) : Stt := ⟨s.kept, s.asked, s.many, s.spoken, s.marks, []⟩
end DL

set_option Elab.async false
set_option linter.all false
set_option maxRecDepth 100000
set_option maxHeartbeats 1000000
namespace DL
open PySem L2
end DL

set_option Elab.async false
set_option linter.all false
set_option maxRecDepth 100000
set_option maxHeartbeats 300000
namespace DL
open PySem L2
end DL

set_option Elab.async false
set_option linter.all false
set_option maxRecDepth 100000
set_option maxHeartbeats 1000000
namespace DL
open PySem L2
def RefL (B : Sto) (a : Den) (ε : Env) (ds : List D) : Prop := ∀ S, B <+: S → ∃ E k, a ε S = .ok (.ref k) (S ++ E) ∧ (S ++ E)[k]? = some (.lst ds)
section
variable {B : Sto} {a b c : Den} {ε : Env} {ds es : List D} {g : GDen} {w : SDen} {fl : Fl}
theorem PurL.ref (h : PurL B a ε ds) : RefL B a ε ds := fun S hS => by
  obtain ⟨E, e⟩ := h S hS
  exact ⟨E ++ [.lst ds], _, by rw [e, List.append_assoc], by rw [← List.append_assoc]; exact getLast_app⟩
end
end DL

set_option Elab.async false
set_option linter.all false
set_option maxRecDepth 100000
set_option maxHeartbeats 1000000
namespace DL
open PySem L2
section
end
end DL

set_option Elab.async false
set_option linter.all false
set_option maxRecDepth 100000
set_option maxHeartbeats 1000000
namespace DL
open PySem L2
structure CloS (P : Thk → Prop) : Prop where
  ret : ∀ v : Int, P fun st => (v, st)
  bind : ∀ (t : Thk) (k : Int → Thk), P t → (∀ v, P (k v)) → P fun st => k (t st).1 (t st).2
  ask : P tAskd
  read : ∀ x ∈ abcd, P (tRead x)
  wrt : ∀ x ∈ abcd, ∀ v, P (tWrt x v)
  say : ∀ v, P (tSayd v)
  cell : ∀ i : Nat, P fun st => ((st.cells[i]?).getD 0, st)
  setC : ∀ (i : Nat) (v : Int), P fun st => (v, st.setC i v)
  push : ∀ (v : Int) (k : Nat → Thk), (∀ i, P (k i)) → P fun st => k st.cells.length (st.push v)
section
variable {P : Thk → Prop}
theorem CloS.iter (C : CloS P) {t : Thk} (h : P t) : ∀ n : Nat, P fun st => (0, iterT t n st)
  | 0 => C.ret 0
  | n + 1 => C.bind t (fun _ => fun st => (0, iterT t n st)) h fun _ => C.iter h n
end
end DL

set_option Elab.async false
set_option linter.all false
set_option maxRecDepth 100000
set_option maxHeartbeats 1000000
namespace DL
open PySem L2
def RsPre (rs rs' : List RS) : Prop := ∀ (i : Nat) (f : RS), rs[i]? = some f → rs'[i]? = some f
mutual
theorem den_pre {rs rs' : List RS} (hp : RsPre rs rs') {sz : List (Nat × Nat)} (hz : sz.length ≤ rs.length) : ∀ (d : Deed) (K : List Str) (env : Ev), okD sz K d → den rs d env = den rs' d env
  | .num i, K, env, h => by simp only [den]
  | .nam x, K, env, h => by simp only [den]
  | .dod x, K, env, h => by simp only [den]
  | .ask, K, env, h => by simp only [den]
  | .rd x, K, env, h => by simp only [den]
  | .wr x a, K, env, h => by simp only [den, den_pre hp hz a K env h.2]
  | .say a, K, env, h => by simp only [den, den_pre hp hz a K env h]
  | .lt x a b, K, env, h => by
    funext st
    simp only [den, den_pre hp hz a K env h.2.1]
    rw [den_pre hp hz b (x :: K) _ h.2.2]
  | .own x a b, K, env, h => by
    funext st
    simp only [den, den_pre hp hz a K env h.2.1]
    rw [den_pre hp hz b (x :: K) _ h.2.2]
  | .iff a b c, K, env, h => by simp only [den, den_pre hp hz a K env h.1, den_pre hp hz b K env h.2.1, den_pre hp hz c K env h.2.2]
  | .two .thn a b, K, env, h => by simp only [den, den_pre hp hz a K env h.1, den_pre hp hz b K env h.2]
  | .two .add a b, K, env, h => by simp only [den, den_pre hp hz a K env h.1, den_pre hp hz b K env h.2]
  | .two .les a b, K, env, h => by simp only [den, den_pre hp hz a K env h.1, den_pre hp hz b K env h.2]
  | .two .lop a b, K, env, h => by simp only [den, den_pre hp hz a K env h.1, den_pre hp hz b K env h.2]
  | .call i ps hs, K, env, h => by
    have hi : i < rs.length := Nat.lt_of_lt_of_le (List.getElem?_eq_some_iff.mp h.1).1 hz
    have e1 := List.getElem?_eq_getElem hi
    have e2 := hp i _ e1
    funext st
    simp only [den, e1, e2, denL_pre hp hz ps K env h.2.1, denT_pre hp hz hs K env h.2.2]
theorem denL_pre {rs rs' : List RS} (hp : RsPre rs rs') {sz : List (Nat × Nat)} (hz : sz.length ≤ rs.length) : ∀ (d : List Deed) (K : List Str) (env : Ev), okDs sz K d → denL rs d env = denL rs' d env
  | [], K, env, h => rfl
  | d :: ds, K, env, h => by
    funext st
    simp only [denL, den_pre hp hz d K env h.1, denL_pre hp hz ds K env h.2]
theorem denT_pre {rs rs' : List RS} (hp : RsPre rs rs') {sz : List (Nat × Nat)} (hz : sz.length ≤ rs.length) : ∀ (d : List Deed) (K : List Str) (env : Ev), okDs sz K d → denT rs d env = denT rs' d env
  | [], K, env, h => rfl
  | d :: ds, K, env, h => by
    simp only [denT, den_pre hp hz d K env h.1, denT_pre hp hz ds K env h.2]
end
theorem rsem_pre (l m : List Rule) : RsPre (rsem l) (rsem (l ++ m)) := fun i f h => by
  have hi : i < l.length := by have := (List.getElem?_eq_some_iff.mp h).1; rw [rsem_len] at this; exact this
  have e := List.getElem?_eq_getElem hi
  rw [rsem_get l i _ e] at h
  have e2 : (l ++ m)[i]? = some l[i] := by rw [List.getElem?_append_left hi]; exact e
  rw [rsem_get (l ++ m) i _ e2, ← h, List.take_append_of_le_length (Nat.le_of_lt hi)]
theorem den_more {l m : List Rule} {d : Deed} {K : List Str} (h : okD (szs l) K d) (env : Ev) : den (rsem (l ++ m)) d env = den (rsem l) d env :=
  (den_pre (rsem_pre l m) (by simp [szs, rsem_len]) d K env h).symm
mutual
def noCall : Deed → Bool
  | .num _ => true | .nam _ => true | .dod _ => true | .ask => true | .rd _ => true
  | .wr _ a => noCall a
  | .say a => noCall a
  | .lt _ a b => noCall a && noCall b
  | .own _ a b => noCall a && noCall b
  | .iff a b c => noCall a && noCall b && noCall c
  | .two _ a b => noCall a && noCall b
  | .call _ _ _ => false
end
theorem okD_noCall {sz : List (Nat × Nat)} : ∀ (d : Deed) (K : List Str), noCall d = true → okD sz K d → okD [] K d
  | .num i, K, _, h => h
  | .nam x, K, _, h => h
  | .dod x, K, _, h => h
  | .ask, K, _, h => h
  | .rd x, K, _, h => h
  | .wr x a, K, n, h => ⟨h.1, okD_noCall a K n h.2⟩
  | .say a, K, n, h => okD_noCall a K n h
  | .lt x a b, K, n, h => by
    simp only [noCall, Bool.and_eq_true] at n
    exact ⟨h.1, okD_noCall a K n.1 h.2.1, okD_noCall b _ n.2 h.2.2⟩
  | .own x a b, K, n, h => by
    simp only [noCall, Bool.and_eq_true] at n
    exact ⟨h.1, okD_noCall a K n.1 h.2.1, okD_noCall b _ n.2 h.2.2⟩
  | .iff a b c, K, n, h => by
    simp only [noCall, Bool.and_eq_true] at n
    exact ⟨okD_noCall a K n.1.1 h.1, okD_noCall b _ n.1.2 h.2.1, okD_noCall c _ n.2 h.2.2⟩
  | .two w a b, K, n, h => by
    simp only [noCall, Bool.and_eq_true] at n
    exact ⟨okD_noCall a K n.1 h.1, okD_noCall b _ n.2 h.2⟩
  | .call i ps hs, K, n, _ => by cases n
def RlJ (rules : List Rule) (j A : Nat) : Prop := ∀ (L : Pl), Apart L → L.rules = encRs rules → RulOk L rules (rsem (rules.take j)) j A
theorem RlJ.zero (rules : List Rule) (A : Nat) : RlJ rules 0 A := fun L ap hL i h => by omega
theorem RlJ.next {rules : List Rule} {j A A' k : Nat} {r : Rule} (h : RlJ rules j A) (e : rules[j]? = some r) (o : okRl (szs (rules.take j)) r) (hn : r.ns.length ≤ 100) (hh : r.hs.length ≤ 100) (hk : dep r.b ≤ k) (hk2 : k ≤ 800) (ha : A ≤ A')
    (hA : (noCall r.b = true ∧ 5 + k * 2 ≤ A') ∨ 5 + k * (A + 2) ≤ A') : RlJ rules (j + 1) A' := fun L ap hL i hi => by
  have jl : j < rules.length := (List.getElem?_eq_some_iff.mp e).1
  by_cases q : i = j
  · subst q
    have e2 := rsem_get (rules.take (i + 1)) i r (take_all e _ (Nat.lt_succ_self _))
    rw [List.take_take, Nat.min_eq_left (by omega)] at e2
    refine ⟨r, _, e, e2, kd_apart o, o.n, o.h, hn, hh, fun S c ρ m ws ts hw ht E gt => ?_⟩
    rcases hA with ⟨nc, hA⟩ | hA
    · have o0 := okD_noCall _ _ nc o.b
      have ed : den (rsem (rules.take i)) r.b (callE r ws ts) = den (rsem []) r.b (callE r ws ts) := by
        have := den_more (l := []) (m := rules.take i) (d := r.b) (K := r.ns ++ r.hs) o0 (callE r ws ts)
        exact this
      simp only [ed]
      have := den_impl (rs := rsem []) (j := 0) (A := 0) ap hL (fun i h => by omega) (rsem_grow _) r.b k hk (by rw [List.take_zero]; exact o0) E (by omega) (callE_grow gt)
      exact this.up Frm.refl (Nat.le_refl _) (by omega)
    · have := den_impl ap hL (h L ap hL) (rsem_grow _) r.b k hk (by simpa using o.b) E (by omega) (callE_grow gt)
      exact this.up Frm.refl (Nat.le_refl _) (by omega)
  · obtain ⟨r', f, a1, a2, a3, a4, a5, a6, a7, a8⟩ := h L ap hL i (by omega)
    have il : i < rules.length := by omega
    have e2 : (rsem (rules.take (j + 1)))[i]? = some f := by
      have := rsem_pre (rules.take j) [r] i f a2
      have tk : rules.take (j + 1) = rules.take j ++ [r] := by rw [List.take_succ, e]; rfl
      rw [tk]
      exact this
    exact ⟨r', f, a1, e2, a3, a4, a5, a6, a7, fun S c ρ m ws ts hw ht E gt => (a8 S c ρ m ws ts hw ht E gt).up Frm.refl (Nat.le_refl _) (by omega)⟩
end DL

set_option Elab.async false
set_option linter.all false
set_option maxRecDepth 100000
set_option maxHeartbeats 1000000
namespace DL
open PySem L2
def Stt.pre (c0 : List Int) (s : Stt) : Stt := ⟨s.kept, s.asked, s.many, s.spoken, s.marks, c0 ++ s.cells⟩
def PreC (c0 : List Int) (t t' : Thk) : Prop := ∀ st, t' (st.pre c0) = ((t st).1, (t st).2.pre c0)
inductive EvRel (c0 : List Int) : Option EV → Option EV → Prop
  | non : EvRel c0 none none
  | int (v : Int) : EvRel c0 (some (.int v)) (some (.int v))
  | cell (i : Nat) : EvRel c0 (some (.cell i)) (some (.cell (c0.length + i)))
  | th {t t' : Thk} : PreC c0 t t' → EvRel c0 (some (.th t)) (some (.th t'))
structure EnvRel (c0 : List Int) (K : List Str) (env env' : Ev) : Prop where
  k : ∀ x ∈ K, EvRel c0 (env x) (env' x)
  a : ∀ x ∈ abcd, env x = none ∧ env' x = none
theorem kd0_abcd : ∀ x ∈ abcd, kd x = 0 := by decide +kernel
theorem EnvRel.put {c0 : List Int} {K : List Str} {env env' : Ev} (h : EnvRel c0 K env env') {x : Str} (hx : kd x ≠ 0) {v v' : EV} (r : EvRel c0 (some v) (some v')) : EnvRel c0 (x :: K) (putE x v env) (putE x v' env') := by
  refine ⟨fun y hy => ?_, fun y hy => ?_⟩
  · unfold putE
    by_cases q : y = x
    · rw [if_pos q, if_pos q]; exact r
    · rw [if_neg q, if_neg q]
      rcases List.mem_cons.mp hy with z | z
      · exact absurd z q
      · exact h.k y z
  · have ne : ¬ y = x := fun q => hx (q ▸ kd0_abcd y hy)
    unfold putE
    rw [if_neg ne, if_neg ne]
    exact h.a y hy
section
variable {c0 : List Int}
theorem PreC.iter {t t' : Thk} (h : PreC c0 t t') : ∀ (n : Nat) (st : Stt), iterT t' n (st.pre c0) = (iterT t n st).pre c0
  | 0, st => rfl
  | n + 1, st => by
    unfold iterT
    rw [h st]
    exact PreC.iter h n _
theorem okRl.abcd {sz : List (Nat × Nat)} {r : Rule} (o : okRl sz r) : ∀ x ∈ abcd, x ∉ r.ns ++ r.hs := fun x hx q => by
  have := kd0_abcd x hx
  rcases List.mem_append.mp q with q | q
  · have := o.n x q; omega
  · have := o.h x q; omega
end
end DL

set_option Elab.async false
set_option linter.all false
set_option maxRecDepth 100000
set_option maxHeartbeats 1000000
namespace DL
open PySem L2
inductive T where
  | non | bl (b : Bool) | int (i : Int) | str (s : Str) | tup (ts : List T) | seq (ts : List T) | lst (ts : List T) | dct (kvs : List (Key × T))
mutual
inductive Rd (Φ : Nat → Prop) (S : Sto) : D → T → Prop
  | non : Rd Φ S .non .non
  | bl (b : Bool) : Rd Φ S (.bl b) (.bl b)
  | int (i : Int) : Rd Φ S (.int i) (.int i)
  | str (x : Str) : Rd Φ S (.str x) (.str x)
  | tup {ds : List D} {ts : List T} : Rds Φ S ds ts → Rd Φ S (.tup ds) (.tup ts)
  | seq {ds : List D} {ts : List T} : Rds Φ S ds ts → Rd Φ S (.seq ds) (.seq ts)
  | lst {n : Nat} {ds : List D} {ts : List T} : ¬ Φ n → S[n]? = some (.lst ds) → Rds Φ S ds ts → Rd Φ S (.ref n) (.lst ts)
  | dct {n : Nat} {ds : List (Key × D)} {ts : List (Key × T)} : ¬ Φ n → S[n]? = some (.dct ds) → Rdk Φ S ds ts → Rd Φ S (.ref n) (.dct ts)
inductive Rds (Φ : Nat → Prop) (S : Sto) : List D → List T → Prop
  | nil : Rds Φ S [] []
  | cons {d : D} {ds : List D} {t : T} {ts : List T} : Rd Φ S d t → Rds Φ S ds ts → Rds Φ S (d :: ds) (t :: ts)
inductive Rdk (Φ : Nat → Prop) (S : Sto) : List (Key × D) → List (Key × T) → Prop
  | nil : Rdk Φ S [] []
  | cons {k : Key} {d : D} {ds : List (Key × D)} {t : T} {ts : List (Key × T)} : Rd Φ S d t → Rdk Φ S ds ts → Rdk Φ S ((k, d) :: ds) ((k, t) :: ts)
end
section
variable {Φ Ψ : Nat → Prop} {S S' : Sto}
mutual
theorem Rd.keep (hΦ : ∀ n, n < S.length → Ψ n → Φ n) (hS : ∀ (n : Nat) (o : O), ¬ Φ n → S[n]? = some o → S'[n]? = some o) : ∀ {d : D} {t : T}, Rd Φ S d t → Rd Ψ S' d t
  | _, _, .non => .non
  | _, _, .bl b => .bl b
  | _, _, .int i => .int i
  | _, _, .str x => .str x
  | _, _, .tup r => .tup (Rds.keep hΦ hS r)
  | _, _, .seq r => .seq (Rds.keep hΦ hS r)
  | _, _, .lst n e r => .lst (fun q => n (hΦ _ (List.getElem?_eq_some_iff.mp e).1 q)) (hS _ _ n e) (Rds.keep hΦ hS r)
  | _, _, .dct n e r => .dct (fun q => n (hΦ _ (List.getElem?_eq_some_iff.mp e).1 q)) (hS _ _ n e) (Rdk.keep hΦ hS r)
theorem Rds.keep (hΦ : ∀ n, n < S.length → Ψ n → Φ n) (hS : ∀ (n : Nat) (o : O), ¬ Φ n → S[n]? = some o → S'[n]? = some o) : ∀ {d : List D} {t : List T}, Rds Φ S d t → Rds Ψ S' d t
  | _, _, .nil => .nil
  | _, _, .cons h t => .cons (Rd.keep hΦ hS h) (Rds.keep hΦ hS t)
theorem Rdk.keep (hΦ : ∀ n, n < S.length → Ψ n → Φ n) (hS : ∀ (n : Nat) (o : O), ¬ Φ n → S[n]? = some o → S'[n]? = some o) : ∀ {d : List (Key × D)} {t : List (Key × T)}, Rdk Φ S d t → Rdk Ψ S' d t
  | _, _, .nil => .nil
  | _, _, .cons h t => .cons (Rd.keep hΦ hS h) (Rdk.keep hΦ hS t)
end
mutual
theorem Rd.one : ∀ {d : D} {t u : T}, Rd Φ S d t → Rd Φ S d u → t = u
  | _, _, _, .non, .non => rfl
  | _, _, _, .bl b, .bl _ => rfl
  | _, _, _, .int i, .int _ => rfl
  | _, _, _, .str x, .str _ => rfl
  | _, _, _, .tup r, .tup r' => by rw [Rds.one r r']
  | _, _, _, .seq r, .seq r' => by rw [Rds.one r r']
  | _, _, _, .lst _ e r, .lst _ e' r' => by rw [e] at e'; cases e'; rw [Rds.one r r']
  | _, _, _, .lst _ e r, .dct _ e' r' => by rw [e] at e'; cases e'
  | _, _, _, .dct _ e r, .lst _ e' r' => by rw [e] at e'; cases e'
  | _, _, _, .dct _ e r, .dct _ e' r' => by rw [e] at e'; cases e'; rw [Rdk.one r r']
theorem Rds.one : ∀ {d : List D} {t u : List T}, Rds Φ S d t → Rds Φ S d u → t = u
  | _, _, _, .nil, .nil => rfl
  | _, _, _, .cons h t, .cons h' t' => by rw [Rd.one h h', Rds.one t t']
theorem Rdk.one : ∀ {d : List (Key × D)} {t u : List (Key × T)}, Rdk Φ S d t → Rdk Φ S d u → t = u
  | _, _, _, .nil, .nil => rfl
  | _, _, _, .cons h t, .cons h' t' => by rw [Rd.one h h', Rdk.one t t']
end
theorem Rd.pre (p : S <+: S') {d : D} {t : T} (h : Rd Φ S d t) : Rd Φ S' d t := h.keep (fun _ _ q => q) fun n o _ e => by
  obtain ⟨E, rfl⟩ := p
  rw [List.getElem?_append_left (List.getElem?_eq_some_iff.mp e).1]
  exact e
theorem Rds.pre (p : S <+: S') {d : List D} {t : List T} (h : Rds Φ S d t) : Rds Φ S' d t := h.keep (fun _ _ q => q) fun n o _ e => by
  obtain ⟨E, rfl⟩ := p
  rw [List.getElem?_append_left (List.getElem?_eq_some_iff.mp e).1]
  exact e
theorem Rdk.pre (p : S <+: S') {d : List (Key × D)} {t : List (Key × T)} (h : Rdk Φ S d t) : Rdk Φ S' d t := h.keep (fun _ _ q => q) fun n o _ e => by
  obtain ⟨E, rfl⟩ := p
  rw [List.getElem?_append_left (List.getElem?_eq_some_iff.mp e).1]
  exact e
theorem Rds.len : ∀ {ds : List D} {ts : List T}, Rds Φ S ds ts → ds.length = ts.length
  | _, _, .nil => rfl
  | _, _, .cons _ t => congrArg (· + 1) (Rds.len t)
theorem Rds.app : ∀ {ds es : List D} {ts us : List T}, Rds Φ S ds ts → Rds Φ S es us → Rds Φ S (ds ++ es) (ts ++ us)
  | _, _, _, _, .nil, s => s
  | _, _, _, _, .cons h t, s => .cons h (Rds.app t s)
theorem Rds.get : ∀ {ds : List D} {ts : List T} {i : Nat} {t : T}, Rds Φ S ds ts → ts[i]? = some t → ∃ d, ds[i]? = some d ∧ Rd Φ S d t
  | _, _, _, _, .nil, e => by simp at e
  | _, _, 0, _, .cons h _, e => by simp at e; subst e; exact ⟨_, rfl, h⟩
  | _, _, i + 1, d, .cons _ t, e => by
    obtain ⟨v, h1, h2⟩ := Rds.get (i := i) (t := d) t (by simpa using e)
    exact ⟨v, by simpa using h1, h2⟩
theorem Rds.take : ∀ {ds : List D} {ts : List T} (n : Nat), Rds Φ S ds ts → Rds Φ S (ds.take n) (ts.take n)
  | _, _, 0, _ => by rw [List.take_zero, List.take_zero]; exact .nil
  | _, _, _ + 1, .nil => .nil
  | _, _, n + 1, .cons h t => .cons h (Rds.take n t)
theorem Rds.drop : ∀ {ds : List D} {ts : List T} (n : Nat), Rds Φ S ds ts → Rds Φ S (ds.drop n) (ts.drop n)
  | _, _, 0, r => r
  | _, _, _ + 1, .nil => .nil
  | _, _, n + 1, .cons _ t => Rds.drop n t
theorem Rds.set {d : D} {t : T} (h : Rd Φ S d t) : ∀ {ds : List D} {ts : List T} (n : Nat), Rds Φ S ds ts → Rds Φ S (ds.set n d) (ts.set n t)
  | _, _, _, .nil => .nil
  | _, _, 0, .cons _ t => .cons h t
  | _, _, n + 1, .cons q t => .cons q (Rds.set h n t)
theorem Rds.rep {ds : List D} {ts : List T} (h : Rds Φ S ds ts) : ∀ n : Nat, Rds Φ S (List.replicate n ds).flatten (List.replicate n ts).flatten
  | 0 => .nil
  | n + 1 => by
    rw [List.replicate_succ, List.replicate_succ, List.flatten_cons, List.flatten_cons]
    exact h.app (Rds.rep h n)
theorem Rds.rev : ∀ {ds : List D} {ts : List T}, Rds Φ S ds ts → Rds Φ S ds.reverse ts.reverse
  | _, _, .nil => .nil
  | _, _, .cons h t => by
    rw [List.reverse_cons, List.reverse_cons]
    exact (Rds.rev t).app (.cons h .nil)
theorem Rds.maps {α : Type} {f : α → D} {g : α → T} : ∀ {l : List α}, (∀ a ∈ l, Rd Φ S (f a) (g a)) → Rds Φ S (l.map f) (l.map g)
  | [], _ => .nil
  | a :: r, h => .cons (h a List.mem_cons_self) (Rds.maps fun b hb => h b (List.mem_cons_of_mem _ hb))
end
inductive RT (α : Type) where
  | ok (a : α) | exc (c : Str) | bad
def RT.bind {α β : Type} : RT α → (α → RT β) → RT β
  | .ok a, k => k a
  | .exc c, _ => .exc c
  | .bad, _ => .bad
@[simp] theorem RT.bind_ok {α β : Type} (a : α) (k : α → RT β) : (RT.ok a).bind k = k a := rfl
@[simp] theorem RT.bind_exc {α β : Type} (c : Str) (k : α → RT β) : (RT.exc c : RT α).bind k = .exc c := rfl
@[simp] theorem RT.bind_bad {α β : Type} (k : α → RT β) : (RT.bad : RT α).bind k = .bad := rfl
def Bnd (Φ : Nat → Prop) (S : Sto) : Prop := ∀ n, Φ n → n < S.length
theorem Bnd.pre {Φ : Nat → Prop} {S S' : Sto} (h : Bnd Φ S) (p : S <+: S') : Bnd Φ S' := fun n q => Nat.lt_of_lt_of_le (h n q) p.length_le
abbrev RlT (β α : Type) := (Nat → Prop) → Sto → β → α → Prop
def OkR {β α : Type} (Rl : RlT β α) (Φ : Nat → Prop) (S : Sto) (r : R β) : RT α → Prop
  | .ok t => ∃ S' d, r = .ok d S' ∧ S <+: S' ∧ Rl Φ S' d t
  | .exc c => ∃ S', r = .exc c S' ∧ S <+: S'
  | .bad => True
theorem OkR.bind {β α β' α' : Type} {Rl : RlT β α} {Rl' : RlT β' α'} {Φ : Nat → Prop} {S : Sto} {r : R β} {q : RT α} {k : β → Sto → R β'} {κ : α → RT α'} (h : OkR Rl Φ S r q) (hk : ∀ S' d t, S <+: S' → Rl Φ S' d t → OkR Rl' Φ S' (k d S') (κ t)) :
    OkR Rl' Φ S (r.bind k) (q.bind κ) := by
  cases q with
  | ok t =>
    obtain ⟨S', d, rfl, p, rl⟩ := h
    have := hk S' d t p rl
    simp only [R.bind_ok, RT.bind_ok]
    cases e : κ t with
    | ok u => rw [e] at this; obtain ⟨S2, d2, e2, p2, r2⟩ := this; exact ⟨S2, d2, e2, p.trans p2, r2⟩
    | exc c => rw [e] at this; obtain ⟨S2, e2, p2⟩ := this; exact ⟨S2, e2, p.trans p2⟩
    | bad => trivial
  | exc c => obtain ⟨S', rfl, p⟩ := h; exact ⟨S', rfl, p⟩
  | bad => trivial
theorem OkR.up {β α : Type} {Rl : RlT β α} {Φ : Nat → Prop} {S S' : Sto} {r : R β} {q : RT α} (p : S <+: S') (h : OkR Rl Φ S' r q) : OkR Rl Φ S r q := by
  cases q with
  | ok t => obtain ⟨S2, d2, e2, p2, r2⟩ := h; exact ⟨S2, d2, e2, p.trans p2, r2⟩
  | exc c => obtain ⟨S2, e2, p2⟩ := h; exact ⟨S2, e2, p.trans p2⟩
  | bad => trivial
theorem OkR.here {β α : Type} {Rl : RlT β α} {Φ : Nat → Prop} {S : Sto} {d : β} {t : α} (h : Rl Φ S d t) : OkR Rl Φ S (.ok d S) (.ok t) := ⟨S, d, rfl, List.prefix_rfl, h⟩
theorem OkR.newL {Φ : Nat → Prop} {S : Sto} {ds : List D} {ts : List T} (hb : Bnd Φ S) (h : Rds Φ S ds ts) : OkR Rd Φ S (.ok (.ref S.length) (S ++ [.lst ds])) (.ok (.lst ts)) :=
  ⟨_, _, rfl, List.prefix_append _ _, .lst (fun q => Nat.lt_irrefl _ (hb _ q)) (by simp) (h.pre (List.prefix_append _ _))⟩
abbrev TEnv := List (Option T)
structure EnvR (Φ : Nat → Prop) (j : Option Nat) (S : Sto) (ε : Env) (τ : TEnv) : Prop where
  len : ε.length = τ.length
  at_ : ∀ (i : Nat) (t : T), j ≠ some i → τ[i]? = some (some t) → ∃ d, ε[i]? = some (some d) ∧ Rd Φ S d t
theorem EnvR.keep {Φ Ψ : Nat → Prop} {j : Option Nat} {S S' : Sto} {ε : Env} {τ : TEnv} (h : EnvR Φ j S ε τ) (hΦ : ∀ n, n < S.length → Ψ n → Φ n) (hS : ∀ (n : Nat) (o : O), ¬ Φ n → S[n]? = some o → S'[n]? = some o) : EnvR Ψ j S' ε τ :=
  ⟨h.len, fun i t n e => let ⟨d, h1, h2⟩ := h.at_ i t n e; ⟨d, h1, h2.keep hΦ hS⟩⟩
theorem EnvR.pre {Φ : Nat → Prop} {j : Option Nat} {S S' : Sto} {ε : Env} {τ : TEnv} (h : EnvR Φ j S ε τ) (p : S <+: S') : EnvR Φ j S' ε τ :=
  ⟨h.len, fun i t n e => let ⟨d, h1, h2⟩ := h.at_ i t n e; ⟨d, h1, h2.pre p⟩⟩
theorem EnvR.set {Φ : Nat → Prop} {j : Option Nat} {S : Sto} {ε : Env} {τ : TEnv} (h : EnvR Φ j S ε τ) (k : Nat) {d : D} {t : T} (r : Rd Φ S d t) : EnvR Φ j S (ε.set k (some d)) (τ.set k (some t)) := by
  refine ⟨by rw [List.length_set, List.length_set]; exact h.len, fun i u n e => ?_⟩
  by_cases q : i = k
  · subst q
    have hl : i < τ.length := by have := (List.getElem?_eq_some_iff.mp e).1; simpa using this
    rw [List.getElem?_set_self (by simpa using hl)] at e
    cases e
    exact ⟨d, by rw [List.getElem?_set_self (by rw [h.len]; simpa using hl)], r⟩
  · rw [List.getElem?_set_ne (Ne.symm q)] at e
    obtain ⟨d', h1, h2⟩ := h.at_ i u n e
    exact ⟨d', by rw [List.getElem?_set_ne (Ne.symm q)]; exact h1, h2⟩
theorem EnvR.off {Φ : Nat → Prop} {j : Option Nat} {S : Sto} {ε : Env} {τ : TEnv} (h : EnvR Φ j S ε τ) (k : Nat) : EnvR Φ j S (ε.set k none) (τ.set k none) := by
  refine ⟨by rw [List.length_set, List.length_set]; exact h.len, fun i u n e => ?_⟩
  by_cases q : i = k
  · subst q
    have hl : i < τ.length := by have := (List.getElem?_eq_some_iff.mp e).1; simpa using this
    rw [List.getElem?_set_self (by simpa using hl)] at e
    cases e
  · rw [List.getElem?_set_ne (Ne.symm q)] at e
    obtain ⟨d', h1, h2⟩ := h.at_ i u n e
    exact ⟨d', by rw [List.getElem?_set_ne (Ne.symm q)]; exact h1, h2⟩
def twipe (τ : TEnv) : List Nat → TEnv
  | [] => τ
  | v :: vs => (twipe τ vs).set v none
theorem EnvR.wipe {Φ : Nat → Prop} {j : Option Nat} {S : Sto} {ε : Env} {τ : TEnv} (h : EnvR Φ j S ε τ) : ∀ vs : List Nat, EnvR Φ j S (wipeE ε vs) (twipe τ vs)
  | [] => h
  | v :: vs => (EnvR.wipe h vs).off v
def Snd {β α : Type} (Rl : RlT β α) (j : Option Nat) (a : Env → Sto → R β) (q : TEnv → RT α) : Prop := ∀ Φ S ε τ, EnvR Φ j S ε τ → Bnd Φ S → OkR Rl Φ S (a ε S) (q τ)
def rqB {β : Type} : RlT β β := fun _ _ d t => d = t
abbrev TDen := TEnv → RT T
abbrev TDenB := TEnv → RT Bool
abbrev TDenA := TEnv → RT (List T)
abbrev TDenO := TEnv → RT (Option Int)
abbrev SndE (j : Option Nat) (a : Den) (q : TDen) : Prop := Snd Rd j a q
abbrev SndB (j : Option Nat) (a : DenB) (q : TDenB) : Prop := Snd rqB j a q
abbrev SndA (j : Option Nat) (a : DenA) (q : TDenA) : Prop := Snd Rds j a q
abbrev SndO (j : Option Nat) (a : DenO) (q : TDenO) : Prop := Snd rqB j a q
theorem Snd.bind {β α β' α' : Type} {Rl : RlT β α} {Rl' : RlT β' α'} {j : Option Nat} {a : Env → Sto → R β} {q : TEnv → RT α} {k : Env → β → Sto → R β'} {κ : TEnv → α → RT α'} (h : Snd Rl j a q)
    (hk : ∀ Φ S ε τ d t, EnvR Φ j S ε τ → Bnd Φ S → Rl Φ S d t → OkR Rl' Φ S (k ε d S) (κ τ t)) : Snd Rl' j (fun ε S => (a ε S).bind (k ε)) (fun τ => (q τ).bind (κ τ)) := fun Φ S ε τ er hb =>
  (h Φ S ε τ er hb).bind fun S' d t p rl => hk Φ S' ε τ d t (er.pre p) (hb.pre p) rl
def tC (t : T) : TDen := fun _ => .ok t
def tVar (i : Nat) : TDen := fun τ => match τ[i]? with
  | some (some t) => .ok t
  | _ => .bad
section
variable {j : Option Nat} {a b c : Den} {p q r : TDen} {as : DenA} {qs : TDenA}
theorem snd_int {i : Int} : SndE j (dC (.int i)) (tC (.int i)) := fun _ _ _ _ _ _ => .here (.int i)
theorem snd_bl {i : Bool} : SndE j (dC (.bl i)) (tC (.bl i)) := fun _ _ _ _ _ _ => .here (.bl i)
theorem snd_str {i : Str} : SndE j (dC (.str i)) (tC (.str i)) := fun _ _ _ _ _ _ => .here (.str i)
theorem snd_non : SndE j (dC .non) (tC .non) := fun _ _ _ _ _ _ => .here .non
theorem snd_var {i : Nat} (h : j ≠ some i := by decide) : SndE j (dVar i) (tVar i) := fun Φ S ε τ er hb => by
  unfold tVar
  split
  · obtain ⟨d, h1, h2⟩ := er.at_ i _ h ‹_›
    rw [x_Var h1]
    exact .here h2
  · trivial
def tNil : TDenA := fun _ => .ok []
def tCons (p : TDen) (qs : TDenA) : TDenA := fun τ => (p τ).bind fun t => (qs τ).bind fun ts => .ok (t :: ts)
theorem snd_nil : SndA j dNil tNil := fun _ _ _ _ _ _ => .here .nil
theorem snd_cons (h : SndE j a p) (hs : SndA j as qs) : SndA j (dCons a as) (tCons p qs) := fun Φ S ε τ er hb =>
  (h Φ S ε τ er hb).bind fun S1 d t p1 r1 => (hs Φ S1 ε τ (er.pre p1) (hb.pre p1)).bind fun S2 ds ts p2 r2 => .here (.cons (Rd.pre p2 r1) r2)
def tTup (qs : TDenA) : TDen := fun τ => (qs τ).bind fun ts => if ts.length ≤ big then .ok (.tup ts) else .bad
def tLst (qs : TDenA) : TDen := fun τ => (qs τ).bind fun ts => if ts.length ≤ big then .ok (.lst ts) else .bad
theorem snd_tup (hs : SndA j as qs) : SndE j (dTup as) (tTup qs) := fun Φ S ε τ er hb =>
  (hs Φ S ε τ er hb).bind fun S1 ds ts p1 r1 => by
    unfold mkTup
    rw [r1.len]
    split
    · exact .here (.tup r1)
    · trivial
theorem snd_lst (hs : SndA j as qs) : SndE j (dLst as) (tLst qs) := fun Φ S ε τ er hb =>
  (hs Φ S ε τ er hb).bind fun S1 ds ts p1 r1 => by
    unfold mkLst
    rw [r1.len]
    split
    · exact .newL (hb.pre p1) r1
    · trivial
abbrev TOp := T → T → RT T
def OpT (o : Op) (q : TOp) : Prop := ∀ Φ S d e t u, Rd Φ S d t → Rd Φ S e u → Bnd Φ S → OkR Rd Φ S (o d e S) (q t u)
def tBin (o : TOp) (p q : TDen) : TDen := fun τ => (p τ).bind fun t => (q τ).bind fun u => o t u
theorem snd_bin {o : Op} {qo : TOp} (ho : OpT o qo) (ha : SndE j a p) (hb : SndE j b q) : SndE j (dBin o a b) (tBin qo p q) := fun Φ S ε τ er hB =>
  (ha Φ S ε τ er hB).bind fun S1 d t p1 r1 => (hb Φ S1 ε τ (er.pre p1) (hB.pre p1)).bind fun S2 e u p2 r2 => ho Φ S2 d e t u (Rd.pre p2 r1) r2 ((hB.pre p1).pre p2)
def tTest (p : TDen) : TDenB := fun τ => (p τ).bind fun t => match t with
  | .bl b => .ok b
  | _ => .bad
theorem snd_test (ha : SndE j a p) : SndB j (dTest a) (tTest p) := fun Φ S ε τ er hB => (ha Φ S ε τ er hB).bind fun S1 d t p1 r1 => by
  cases r1 <;> first | exact OkR.here rfl | trivial
def qAdd : TOp := fun t u => match t, u with
  | .int i, .int k => .ok (.int (i + k))
  | .str x, .str y => if x.length + y.length ≤ big then .ok (.str (x ++ y)) else .bad
  | .tup xs, .tup ys => if xs.length + ys.length ≤ big then .ok (.tup (xs ++ ys)) else .bad
  | .lst xs, .lst ys => if (xs ++ ys).length ≤ big then .ok (.lst (xs ++ ys)) else .bad
  | _, _ => .bad
theorem sq_add : OpT oAdd qAdd := fun Φ S d e t u r r' hB => by
  cases r <;> cases r' <;> try (first | trivial | exact OkR.here (.int _))
  · simp only [oAdd, qAdd]
    split
    · exact .here (.str _)
    · trivial
  · rename_i rs _ _ rs'
    simp only [oAdd, qAdd, rs.len, rs'.len]
    split
    · exact .here (.tup (rs.app rs'))
    · trivial
  · rename_i _ e1 rs _ _ _ _ e2 rs'
    simp only [oAdd, qAdd, e1, e2, mkLst, (rs.app rs').len]
    split
    · exact .newL hB (rs.app rs')
    · trivial
def qSub : TOp := fun t u => match t, u with
  | .int i, .int k => .ok (.int (i - k))
  | _, _ => .bad
theorem sq_sub : OpT oSub qSub := fun Φ S d e t u r r' hB => by
  cases r <;> cases r' <;> try (first | trivial | exact OkR.here (.int _))
def qMod : TOp := fun t u => match t, u with
  | .int i, .int k => if 0 < k then .ok (.int (i % k)) else .bad
  | _, _ => .bad
theorem sq_mod : OpT oMod qMod := fun Φ S d e t u r r' hB => by
  cases r <;> cases r' <;> try trivial
  simp only [oMod, qMod]
  split
  · exact .here (.int _)
  · trivial
def qDiv : TOp := fun t u => match t, u with
  | .int i, .int k => if 0 < k ∧ k < 1073741824 then .ok (.int (i / k)) else .bad
  | _, _ => .bad
theorem sq_div : OpT oDiv qDiv := fun Φ S d e t u r r' hB => by
  cases r <;> cases r' <;> try trivial
  simp only [oDiv, qDiv]
  split
  · exact .here (.int _)
  · trivial
def qMul0 : TOp := fun t u => match t, u with
  | .int i, .int j => if (-(2 ^ 64) < i ∧ i < 2 ^ 64) ∨ (-(2 ^ 64) < j ∧ j < 2 ^ 64) then .ok (.int (i * j)) else .bad
  | .tup xs, .int k => if 0 ≤ k ∧ k ≤ 1000 ∧ (xs = [] ∨ k = 1) then .ok (.tup xs) else if 2 ≤ k ∧ k ≤ 1000 ∧ xs.length ≤ 1000 then .ok (.tup (List.replicate k.toNat xs).flatten) else .bad
  | .lst xs, .int k => if -(2 ^ 63) ≤ k ∧ k < 2 ^ 63 ∧ xs.length * k.toNat ≤ big then .ok (.lst (List.replicate k.toNat xs).flatten) else .bad
  | _, _ => .bad
theorem sq_mul0 : OpT oMul qMul0 := fun Φ S d e t u r r' hB => by
  cases r <;> cases r' <;> try trivial
  · simp only [oMul, qMul0]
    split
    · exact .here (.int _)
    · trivial
  · rename_i ds ts rs k
    have hn : ds = [] ↔ ts = [] := by rw [← List.length_eq_zero_iff, ← List.length_eq_zero_iff, rs.len]
    simp only [oMul, qMul0, rs.len, hn]
    split
    · exact .here (.tup rs)
    · split
      · exact .here (.tup (rs.rep _))
      · trivial
  · rename_i _ e1 rs k
    simp only [oMul, qMul0, e1, rs.len]
    split
    · exact .newL hB (rs.rep _)
    · trivial
theorem qMul_ex : ∃ f : TOp, f = qMul0 := ⟨_, rfl⟩
noncomputable def qMul : TOp := qMul_ex.choose
theorem qMul_eq : qMul = qMul0 := qMul_ex.choose_spec
theorem sq_mul : OpT oMul qMul := qMul_eq ▸ sq_mul0
def qPow0 : TOp := fun d e => match d, e with
  | .int i, .int j => if 0 ≤ j ∧ j ≤ 1000000 ∧ i.natAbs < 2 ^ 64 then .ok (.int (i ^ j.toNat)) else .bad
  | _, _ => .bad
theorem sq_pow0 : OpT oPow qPow0 := fun Φ S d e t u r r' hB => by
  cases r <;> cases r' <;> try trivial
  simp only [oPow, qPow0]
  split
  · exact .here (.int _)
  · trivial
theorem qPow_ex : ∃ f : TOp, f = qPow0 := ⟨_, rfl⟩
noncomputable def qPow : TOp := qPow_ex.choose
theorem qPow_eq : qPow = qPow0 := qPow_ex.choose_spec
theorem sq_pow : OpT oPow qPow := qPow_eq ▸ sq_pow0
def tNeg (p : TDen) : TDen := fun τ => (p τ).bind fun d => match d with
  | .int i => .ok (.int (-i))
  | _ => .bad
theorem snd_neg (ha : SndE j a p) : SndE j (dNeg a) (tNeg p) := fun Φ S ε τ er hB => (ha Φ S ε τ er hB).bind fun S1 d t p1 r1 => by
  cases r1 <;> first | exact OkR.here (.int _) | trivial
def qInt (f : Int → Int → Bool) : TOp := fun d e => match d, e with
  | .int i, .int j => .ok (.bl (f i j))
  | _, _ => .bad
theorem sq_int {f : Int → Int → Bool} : OpT (oInt f) (qInt f) := fun Φ S d e t u r r' hB => by
  cases r <;> cases r' <;> first | trivial | exact OkR.here (.bl _)
abbrev qLt : TOp := qInt fun i j => decide (i < j)
abbrev qLe : TOp := qInt fun i j => decide (i ≤ j)
abbrev qGt : TOp := qInt fun i j => decide (j < i)
abbrev qGe : TOp := qInt fun i j => decide (j ≤ i)
def py : Nat → T → Option PyData
  | 0, _ => none
  | n + 1, d => match d with
    | .non => some .none
    | .bl b => some (.bool b)
    | .int i => some (.int i)
    | .str x => some (.str x)
    | .tup ds => (fall (py n) ds).map .tuple
    | .seq ds => (fall (py n) ds).map .list
    | .lst ds => (fall (py n) ds).map .list
    | .dct _ => none
theorem fall_py {Φ : Nat → Prop} {S : Sto} {f : D → Option PyData} {g : T → Option PyData} (h : ∀ d t, Rd Φ S d t → f d = g t) : ∀ {ds : List D} {ts : List T}, Rds Φ S ds ts → fall f ds = fall g ts
  | _, _, .nil => rfl
  | _, _, .cons a b => by
    simp only [fall, h _ _ a, fall_py h b]
theorem frz_py {Φ : Nat → Prop} {S : Sto} : ∀ (n : Nat) (d : D) (t : T), Rd Φ S d t → frz n S d = py n t
  | 0, _, _, _ => rfl
  | n + 1, d, t, r => by
    cases r with
    | non => rfl
    | bl => rfl
    | int => rfl
    | str => rfl
    | tup rs => simp only [frz, py, fall_py (frz_py n) rs]
    | seq rs => simp only [frz, py, fall_py (frz_py n) rs]
    | lst _ e rs => simp only [frz, py, e, fall_py (frz_py n) rs]
    | dct _ e rs => simp only [frz, py, e]
def sEqT : T → T → Option Bool
  | .non, .non => some true
  | .non, .int _ => some false | .int _, .non => some false | .non, .bl _ => some false | .bl _, .non => some false | .non, .str _ => some false | .str _, .non => some false
  | .int i, .int j => some (decide (i = j))
  | .bl i, .bl j => some (decide (i = j))
  | .str i, .str j => some (decide (i = j))
  | .int _, .str _ => some false | .str _, .int _ => some false | .bl _, .str _ => some false | .str _, .bl _ => some false
  | _, _ => none
def eqT (t u : T) : Option Bool := match sEqT t u with
  | some b => some b
  | none => match py deep t, py deep u with
    | some p, some q => if SeqAt.shaped p = true ∧ SeqAt.shaped q = true then some (PyData.eqv p q) else none
    | _, _ => none
theorem dEq_T {Φ : Nat → Prop} {S : Sto} {d e : D} {t u : T} (r : Rd Φ S d t) (r' : Rd Φ S e u) : dEq S d e = eqT t u := by
  have h : sEq d e = sEqT t u := by cases r <;> cases r' <;> rfl
  unfold dEq eqT
  rw [h, frz_py deep _ _ r, frz_py deep _ _ r']
  all_goals
    cases sEqT t u with
    | some b => rfl
    | none => cases py deep t <;> cases py deep u <;> rfl
def qEq : TOp := fun t u => match eqT t u with
  | some b => .ok (.bl b)
  | none => .bad
def qNe : TOp := fun t u => match eqT t u with
  | some b => .ok (.bl !b)
  | none => .bad
theorem sq_eq : OpT oEq qEq := fun Φ S d e t u r r' hB => by
  unfold oEq qEq
  rw [dEq_T r r']
  cases eqT t u with
  | some b => exact OkR.here (.bl _)
  | none => trivial
theorem sq_ne : OpT oNe qNe := fun Φ S d e t u r r' hB => by
  unfold oNe qNe
  rw [dEq_T r r']
  cases eqT t u with
  | some b => exact OkR.here (.bl _)
  | none => trivial
def itsT : T → Option (List T)
  | .tup ts => some ts
  | .seq ts => some ts
  | .lst ts => some ts
  | _ => none
theorem items_T {Φ : Nat → Prop} {S : Sto} {d : D} {t : T} (r : Rd Φ S d t) : (items S d = none ∧ itsT t = none) ∨ ∃ ds ts, items S d = some ds ∧ itsT t = some ts ∧ Rds Φ S ds ts := by
  cases r with
  | tup rs => exact .inr ⟨_, _, rfl, rfl, rs⟩
  | seq rs => exact .inr ⟨_, _, rfl, rfl, rs⟩
  | lst _ e rs => exact .inr ⟨_, _, by simp only [items, e], rfl, rs⟩
  | dct _ e rs => exact .inl ⟨by simp only [items, e], rfl⟩
  | _ => exact .inl ⟨rfl, rfl⟩
def flatT : T → Bool
  | .non => true | .bl _ => true | .int _ => true | .str _ => true
  | _ => false
def eqFT : T → T → Bool
  | .non, .non => true
  | .bl a, .bl b => a == b
  | .bl a, .int b => (if a then 1 else 0) == b
  | .int a, .bl b => a == (if b then 1 else 0)
  | .int a, .int b => a == b
  | .str a, .str b => a == b
  | _, _ => false
theorem flat_T {Φ : Nat → Prop} {S : Sto} {d : D} {t : T} (r : Rd Φ S d t) : flatD d = flatT t := by cases r <;> rfl
theorem flats_T {Φ : Nat → Prop} {S : Sto} : ∀ {ds : List D} {ts : List T}, Rds Φ S ds ts → ds.all flatD = ts.all flatT
  | _, _, .nil => rfl
  | _, _, .cons h t => by rw [List.all_cons, List.all_cons, flat_T h, flats_T t]
theorem eqF_T {Φ : Nat → Prop} {S : Sto} {d e : D} {t u : T} (r : Rd Φ S d t) (r' : Rd Φ S e u) : eqF d e = eqFT t u := by cases r <;> cases r' <;> rfl
theorem any_T {Φ : Nat → Prop} {S : Sto} {d : D} {t : T} (r : Rd Φ S d t) : ∀ {ds : List D} {ts : List T}, Rds Φ S ds ts → (ds.any fun z => eqF z d) = ts.any fun z => eqFT z t
  | _, _, .nil => rfl
  | _, _, .cons h q => by rw [List.any_cons, List.any_cons, eqF_T h r, any_T r q]
def inS (t u : T) : Option Bool := match itsT u with
  | some ts => if flatT t = true ∧ ts.all flatT = true then some (ts.any fun z => eqFT z t) else
      match py deep t, py deep u with
      | some p, some (.list ps) => if SeqAt.shaped p = true ∧ SeqAt.shaped (.list ps) = true then some (ps.any fun z => PyData.eqv z p) else none
      | some p, some (.tuple ps) => if SeqAt.shaped p = true ∧ SeqAt.shaped (.tuple ps) = true then some (ps.any fun z => PyData.eqv z p) else none
      | _, _ => none
  | none => none
def inT (t u : T) : Option Bool := match t, u with
  | .str x, .str y => if x.cps.size = 1 then some (decide (x.cps.getD 0 0 ∈ y.cps.toList)) else none
  | t, u => inS t u
theorem inD_T {Φ : Nat → Prop} {S : Sto} {d e : D} {t u : T} (r : Rd Φ S d t) (r' : Rd Φ S e u) : inD S d e = inT t u := by
  by_cases h : ∃ x y, d = .str x ∧ e = .str y
  · obtain ⟨x, y, rfl, rfl⟩ := h
    cases r
    cases r'
    rfl
  · have h1 : inT t u = inS t u := by
      cases r <;> cases r' <;> first | rfl | exact absurd ⟨_, _, rfl, rfl⟩ h
    rw [h1]
    have h2 : inD S d e = match items S e with
        | some ds => if flatD d = true ∧ ds.all flatD = true then some (ds.any fun z => eqF z d) else
          match frz deep S d, frz deep S e with
          | some p, some (.list ps) => if SeqAt.shaped p = true ∧ SeqAt.shaped (.list ps) = true then some (ps.any fun z => PyData.eqv z p) else none
          | some p, some (.tuple ps) => if SeqAt.shaped p = true ∧ SeqAt.shaped (.tuple ps) = true then some (ps.any fun z => PyData.eqv z p) else none
          | _, _ => none
        | none => none := by
      cases d <;> cases e <;> first | rfl | exact absurd ⟨_, _, rfl, rfl⟩ h
    rw [h2]
    unfold inS
    rcases items_T r' with ⟨e1, e2⟩ | ⟨ds, ts, e1, e2, rs⟩
    · rw [e1, e2]
    · rw [e1, e2]
      simp only [flat_T r, flats_T rs, any_T r rs, frz_py deep _ _ r, frz_py deep _ _ r']
def qIn : TOp := fun t u => match inT t u with
  | some b => .ok (.bl b)
  | none => .bad
def qNotIn : TOp := fun t u => match inT t u with
  | some b => .ok (.bl !b)
  | none => .bad
theorem sq_in : OpT oIn qIn := fun Φ S d e t u r r' hB => by
  unfold oIn qIn
  rw [inD_T r r']
  cases inT t u with
  | some b => exact OkR.here (.bl _)
  | none => trivial
theorem sq_notIn : OpT oNotIn qNotIn := fun Φ S d e t u r r' hB => by
  unfold oNotIn qNotIn
  rw [inD_T r r']
  cases inT t u with
  | some b => exact OkR.here (.bl _)
  | none => trivial
end
end DL

set_option Elab.async false
set_option linter.all false
set_option maxRecDepth 100000
set_option maxHeartbeats 1000000
namespace DL
open PySem L2
section
variable {j : Option Nat} {a b c : Den} {p q r : TDen} {as : DenA} {qs : TDenA} {ba bb : DenB} {γ δ : TDenB}
theorem Rds.atI {Φ : Nat → Prop} {S : Sto} {ds : List D} {ts : List T} (r : Rds Φ S ds ts) (i : Int) : (L2.atI ds i = none ∧ L2.atI ts i = none) ∨ ∃ d t, L2.atI ds i = some d ∧ L2.atI ts i = some t ∧ Rd Φ S d t := by
  unfold L2.atI
  rw [r.len]
  cases ixN ts.length i with
  | none => exact .inl ⟨rfl, rfl⟩
  | some k =>
    show (ds[k]? = none ∧ ts[k]? = none) ∨ ∃ d t, ds[k]? = some d ∧ ts[k]? = some t ∧ Rd Φ S d t
    cases e : ts[k]? with
    | none => exact .inl ⟨by rw [List.getElem?_eq_none_iff] at e ⊢; rw [r.len]; exact e, rfl⟩
    | some t => obtain ⟨d, h1, h2⟩ := r.get e; exact .inr ⟨d, t, h1, rfl, h2⟩
def qIx : TOp := fun d e => match d, e with
  | .str z, .int i => if z.length ≤ big then (match atI z.cps.toList i with
    | some c => .ok (.str ⟨#[c]⟩)
    | none => .bad) else .bad
  | d, .int i => match itsT d with
    | some ds => (match atI ds i with
      | some x => .ok x
      | none => .bad)
    | none => .bad
  | _, _ => .bad
theorem sq_ix : OpT oIx qIx := fun Φ S d e t u r r' hB => by
  by_cases h : ∃ z, d = .str z
  · obtain ⟨z, rfl⟩ := h
    cases r
    cases r' <;> try trivial
    simp only [oIx, qIx]
    split
    · split
      · rename_i h; try simp only [h]
        exact .here (.str _)
      · rename_i h; try simp only [h]
        trivial
    · trivial
  · cases r' with
    | int i =>
      have h1 : oIx d (.int i) S = match items S d with
          | some ds => (match atI ds i with
            | some x => .ok x S
            | none => .bad)
          | none => .bad := by
        cases d <;> first | rfl | exact absurd ⟨_, rfl⟩ h
      have h2 : qIx t (.int i) = match itsT t with
          | some ds => (match atI ds i with
            | some x => .ok x
            | none => .bad)
          | none => .bad := by
        cases r <;> first | rfl | exact absurd ⟨_, rfl⟩ h
      rw [h1, h2]
      rcases items_T r with ⟨e1, e2⟩ | ⟨ds, ts, e1, e2, rs⟩
      · rw [e1, e2]; trivial
      · rw [e1, e2]
        rcases rs.atI i with ⟨e3, e4⟩ | ⟨d', t', e3, e4, r4⟩
        · simp only [e3, e4]; trivial
        · simp only [e3, e4]; exact .here r4
    | _ =>
      have h2 : ∀ u : T, (∀ i, u ≠ .int i) → qIx t u = .bad := by
        intro u hu
        unfold qIx
        split <;> first | rfl | exact absurd rfl (hu _)
      rw [h2 _ (by intro i; simp)]
      trivial
def keyT : T → Option Key
  | .int i => some (.inl i)
  | .str x => some (.inr x)
  | _ => none
theorem key_T {Φ : Nat → Prop} {S : Sto} {d : D} {t : T} (r : Rd Φ S d t) : keyD d = keyT t := by cases r <;> rfl
def valT (kvs : List (Key × T)) (k : Key) : Option T := (kvs.find? fun kv => decide (kv.1 = k)).map (·.2)
def putT (kvs : List (Key × T)) (k : Key) (v : T) : List (Key × T) :=
  if (kvs.any fun kv => decide (kv.1 = k)) = true then kvs.map (fun kv => if kv.1 = k then (kv.1, v) else kv) else kvs ++ [(k, v)]
theorem Rdk.len {Φ : Nat → Prop} {S : Sto} : ∀ {ds : List (Key × D)} {ts : List (Key × T)}, Rdk Φ S ds ts → ds.length = ts.length
  | _, _, .nil => rfl
  | _, _, .cons _ t => congrArg (· + 1) (Rdk.len t)
theorem Rdk.val {Φ : Nat → Prop} {S : Sto} (k : Key) : ∀ {ds : List (Key × D)} {ts : List (Key × T)}, Rdk Φ S ds ts → (valD ds k = none ∧ valT ts k = none) ∨ ∃ d t, valD ds k = some d ∧ valT ts k = some t ∧ Rd Φ S d t
  | _, _, .nil => .inl ⟨rfl, rfl⟩
  | _, _, .cons (k := k') (d := d) (ds := ds) (t := t) (ts := ts) h q => by
    by_cases e : k' = k
    · subst e
      exact .inr ⟨d, t, by simp [valD], by simp [valT], h⟩
    · have h1 : valD ((k', d) :: ds) k = valD ds k := by simp [valD, List.find?, e]
      have h2 : valT ((k', t) :: ts) k = valT ts k := by simp [valT, List.find?, e]
      rw [h1, h2]
      exact Rdk.val k q
theorem Rdk.app {Φ : Nat → Prop} {S : Sto} : ∀ {ds es : List (Key × D)} {ts us : List (Key × T)}, Rdk Φ S ds ts → Rdk Φ S es us → Rdk Φ S (ds ++ es) (ts ++ us)
  | _, _, _, _, .nil, s => s
  | _, _, _, _, .cons h t, s => .cons h (Rdk.app t s)
theorem Rdk.anyK {Φ : Nat → Prop} {S : Sto} (k : Key) : ∀ {ds : List (Key × D)} {ts : List (Key × T)}, Rdk Φ S ds ts → (ds.any fun kv => decide (kv.1 = k)) = (ts.any fun kv => decide (kv.1 = k))
  | _, _, .nil => rfl
  | _, _, .cons h t => by rw [List.any_cons, List.any_cons, Rdk.anyK k t]
theorem Rdk.mapPut {Φ : Nat → Prop} {S : Sto} (k : Key) {d : D} {t : T} (r : Rd Φ S d t) : ∀ {ds : List (Key × D)} {ts : List (Key × T)}, Rdk Φ S ds ts → Rdk Φ S (ds.map fun kv => if kv.1 = k then (kv.1, d) else kv) (ts.map fun kv => if kv.1 = k then (kv.1, t) else kv)
  | _, _, .nil => .nil
  | _, _, .cons (k := k') h q => by
    by_cases e : k' = k
    · simp only [List.map_cons, e, if_true]; exact .cons r (Rdk.mapPut k r q)
    · simp only [List.map_cons, e, if_false]; exact .cons h (Rdk.mapPut k r q)
theorem Rdk.put {Φ : Nat → Prop} {S : Sto} (k : Key) {d : D} {t : T} (r : Rd Φ S d t) {ds : List (Key × D)} {ts : List (Key × T)} (h : Rdk Φ S ds ts) : Rdk Φ S (putD ds k d) (putT ts k t) := by
  unfold putD putT
  rw [h.anyK k]
  split
  · exact h.mapPut k r
  · exact h.app (.cons r .nil)
def dctT : T → Option (List (Key × T))
  | .dct kvs => some kvs
  | _ => none
theorem dct_T {Φ : Nat → Prop} {S : Sto} {d : D} {t : T} (r : Rd Φ S d t) : (dctAt S d = none ∧ dctT t = none) ∨ ∃ n ds ts, dctAt S d = some (n, ds) ∧ dctT t = some ts ∧ Rdk Φ S ds ts ∧ ¬ Φ n ∧ S[n]? = some (.dct ds) := by
  cases r with
  | lst _ e rs => exact .inl ⟨by simp only [dctAt, e], rfl⟩
  | dct h e rs => exact .inr ⟨_, _, _, by simp only [dctAt, e], rfl, rs, h, e⟩
  | _ => exact .inl ⟨rfl, rfl⟩
def qGet : TOp := fun d k => match dctT d with
  | some kvs => (match keyT k with
    | some j => (match valT kvs j with
      | some v => .ok v
      | none => .bad)
    | none => .bad)
  | none => qIx d k
theorem sq_get : OpT oGet qGet := fun Φ S d e t u r r' hB => by
  unfold oGet qGet
  rcases dct_T r with ⟨e1, e2⟩ | ⟨n, ds, ts, e1, e2, rs, _, _⟩
  · rw [e1, e2]
    exact sq_ix Φ S d e t u r r' hB
  · rw [e1, e2, key_T r']
    cases keyT u with
    | none => trivial
    | some k =>
      rcases rs.val k with ⟨e3, e4⟩ | ⟨d', t', e3, e4, r4⟩
      · simp only [e3, e4]; trivial
      · simp only [e3, e4]; exact .here r4
def keyedT : List (T × T) → Option (List (Key × T))
  | [] => some []
  | (k, v) :: r => match keyT k, keyedT r with
    | some j, some s => some ((j, v) :: s)
    | _, _ => none
inductive Rdp (Φ : Nat → Prop) (S : Sto) : List (D × D) → List (T × T) → Prop
  | nil : Rdp Φ S [] []
  | cons {k v : D} {x y : T} {ds : List (D × D)} {ts : List (T × T)} : Rd Φ S k x → Rd Φ S v y → Rdp Φ S ds ts → Rdp Φ S ((k, v) :: ds) ((x, y) :: ts)
theorem Rdp.keyed {Φ : Nat → Prop} {S : Sto} : ∀ {ds : List (D × D)} {ts : List (T × T)}, Rdp Φ S ds ts → (DL.keyed ds = none ∧ keyedT ts = none) ∨ ∃ ks us, DL.keyed ds = some ks ∧ keyedT ts = some us ∧ Rdk Φ S ks us
  | _, _, .nil => .inr ⟨[], [], rfl, rfl, .nil⟩
  | _, _, .cons (x := x) hk hv h => by
    unfold DL.keyed keyedT
    rw [key_T hk]
    cases keyT x with
    | none => exact .inl ⟨rfl, rfl⟩
    | some k =>
      rcases Rdp.keyed h with ⟨e1, e2⟩ | ⟨ks, us, e1, e2, rs⟩
      · rw [e1, e2]; exact .inl ⟨rfl, rfl⟩
      · rw [e1, e2]; exact .inr ⟨_, _, rfl, rfl, .cons hv rs⟩
def cutT (xs : List T) (lo hi : Option Int) : List T := (xs.drop (HT.sIx xs.length 0 lo)).take (HT.sIx xs.length xs.length hi - HT.sIx xs.length 0 lo)
theorem Rds.cut {Φ : Nat → Prop} {S : Sto} {ds : List D} {ts : List T} (r : Rds Φ S ds ts) (lo hi : Option Int) : Rds Φ S (cutD ds lo hi) (cutT ts lo hi) := by
  unfold cutD cutT
  rw [r.len]
  exact (r.drop _).take _
def qSl (d : T) (lo hi : Option Int) : RT T := match d with
  | .str z => if z.length ≤ big then .ok (.str (cutS z lo hi)) else .bad
  | .tup ds => .ok (.tup (cutT ds lo hi))
  | .seq ds => if ds.length ≤ big then .ok (.lst (cutT ds lo hi)) else .bad
  | .lst ds => if ds.length ≤ big then .ok (.lst (cutT ds lo hi)) else .bad
  | _ => .bad
theorem sq_sl {Φ : Nat → Prop} {S : Sto} {d : D} {t : T} (r : Rd Φ S d t) (hB : Bnd Φ S) (lo hi : Option Int) : OkR Rd Φ S (oSl d lo hi S) (qSl t lo hi) := by
  cases r with
  | str x =>
    simp only [oSl, qSl]
    split
    · exact .here (.str _)
    · trivial
  | tup rs => exact .here (.tup (rs.cut lo hi))
  | seq rs =>
    simp only [oSl, qSl, rs.len]
    split
    · exact .newL hB (rs.cut lo hi)
    · trivial
  | lst _ e rs =>
    simp only [oSl, qSl, e, rs.len]
    split
    · exact .newL hB (rs.cut lo hi)
    · trivial
  | _ => trivial
def tNoPart : TDenO := fun _ => .ok none
def tPart (p : TDen) : TDenO := fun τ => (p τ).bind fun d => match d with
  | .int i => .ok (some i)
  | _ => .bad
theorem snd_noPart : SndO j dNoPart tNoPart := fun _ _ _ _ _ _ => .here rfl
theorem snd_part (ha : SndE j a p) : SndO j (dPart a) (tPart p) := fun Φ S ε τ er hB => (ha Φ S ε τ er hB).bind fun S1 d t p1 r1 => by
  cases r1 <;> first | exact OkR.here rfl | trivial
def tSl (p : TDen) (lo hi : TDenO) : TDen := fun τ => (p τ).bind fun d => (lo τ).bind fun l => (hi τ).bind fun u => qSl d l u
theorem snd_sl {lo hi : DenO} {lo' hi' : TDenO} (ha : SndE j a p) (hl : SndO j lo lo') (hh : SndO j hi hi') : SndE j (dSl a lo hi) (tSl p lo' hi') := fun Φ S ε τ er hB =>
  (ha Φ S ε τ er hB).bind fun S1 d t p1 r1 => (hl Φ S1 ε τ (er.pre p1) (hB.pre p1)).bind fun S2 e u p2 r2 => (hh Φ S2 ε τ ((er.pre p1).pre p2) ((hB.pre p1).pre p2)).bind fun S3 e3 u3 p3 r3 => by
    cases r2
    cases r3
    exact sq_sl ((r1.pre p2).pre p3) (((hB.pre p1).pre p2).pre p3) _ _
def tbAnd (a b : TDenB) : TDenB := fun τ => (a τ).bind fun c => if c = true then b τ else .ok false
def tbOr (a b : TDenB) : TDenB := fun τ => (a τ).bind fun c => if c = true then .ok true else b τ
def tbNot (a : TDenB) : TDenB := fun τ => (a τ).bind fun c => .ok (!c)
def tYes : TDenB := fun _ => .ok true
theorem snd_and (ha : SndB j ba γ) (hb : SndB j bb δ) : SndB j (bAnd ba bb) (tbAnd γ δ) := fun Φ S ε τ er hB => (ha Φ S ε τ er hB).bind fun S1 d t p1 r1 => by
  cases r1
  split
  · exact hb Φ S1 ε τ (er.pre p1) (hB.pre p1)
  · exact .here rfl
theorem snd_or (ha : SndB j ba γ) (hb : SndB j bb δ) : SndB j (bOr ba bb) (tbOr γ δ) := fun Φ S ε τ er hB => (ha Φ S ε τ er hB).bind fun S1 d t p1 r1 => by
  cases r1
  split
  · exact .here rfl
  · exact hb Φ S1 ε τ (er.pre p1) (hB.pre p1)
theorem snd_not (ha : SndB j ba γ) : SndB j (bNot ba) (tbNot γ) := fun Φ S ε τ er hB => (ha Φ S ε τ er hB).bind fun S1 d t p1 r1 => by
  cases r1
  exact .here rfl
theorem snd_yes : SndB j bYes tYes := fun _ _ _ _ _ _ => .here rfl
def tAndV (a b : TDen) : TDen := fun τ => (a τ).bind fun c => match c with
  | .bl true => b τ
  | .bl false => .ok (.bl false)
  | _ => .bad
theorem snd_andV (ha : SndE j a p) (hb : SndE j b q) : SndE j (dAndV a b) (tAndV p q) := fun Φ S ε τ er hB => (ha Φ S ε τ er hB).bind fun S1 d t p1 r1 => by
  cases r1 with
  | bl b => cases b with
    | true => exact hb Φ S1 ε τ (er.pre p1) (hB.pre p1)
    | false => exact .here (.bl _)
  | _ => trivial
def tIf (c : TDenB) (a b : TDen) : TDen := fun τ => (c τ).bind fun k => if k = true then a τ else b τ
def tChain (o o' : TOp) (a b c : TDen) : TDen := fun τ => (a τ).bind fun x => (b τ).bind fun y => (o x y).bind fun k => match k with
  | .bl true => (c τ).bind fun z => o' y z
  | .bl false => .ok (.bl false)
  | _ => .bad
theorem snd_chain {o o' : Op} {qo qo' : TOp} (ho : OpT o qo) (ho' : OpT o' qo') (ha : SndE j a p) (hb : SndE j b q) (hc : SndE j c r) : SndE j (dChain o o' a b c) (tChain qo qo' p q r) := fun Φ S ε τ er hB =>
  (ha Φ S ε τ er hB).bind fun S1 d t p1 r1 => (hb Φ S1 ε τ (er.pre p1) (hB.pre p1)).bind fun S2 e u p2 r2 => (ho Φ S2 d e t u (r1.pre p2) r2 ((hB.pre p1).pre p2)).bind fun S3 k v p3 r3 => by
    cases r3 with
    | bl b => cases b with
      | true => exact (hc Φ S3 ε τ (((er.pre p1).pre p2).pre p3) (((hB.pre p1).pre p2).pre p3)).bind fun S4 z w p4 r4 => ho' Φ S4 e z u w ((r2.pre p3).pre p4) r4 ((((hB.pre p1).pre p2).pre p3).pre p4)
      | false => exact .here (.bl _)
    | _ => trivial
abbrev TFn := List T → RT T
def FnT (f : Fn) (q : TFn) : Prop := ∀ Φ S ds ts, Rds Φ S ds ts → Bnd Φ S → OkR Rd Φ S (f ds S) (q ts)
def tFn (f : TFn) (qs : TDenA) : TDen := fun τ => (qs τ).bind f
theorem snd_fn {f : Fn} {q : TFn} (hf : FnT f q) (hs : SndA j as qs) : SndE j (dFn f as) (tFn q qs) := fun Φ S ε τ er hB => (hs Φ S ε τ er hB).bind fun S1 ds ts p1 r1 => hf Φ S1 ds ts r1 (hB.pre p1)
def tCall (n : Nat) (f : TFn) (qs : TDenA) : TDen := fun τ => (qs τ).bind fun ts => if ts.length = n then f ts else .bad
theorem snd_call {n : Nat} {f : Fn} {q : TFn} (hf : FnT f q) (hs : SndA j as qs) : SndE j (dCall n f as) (tCall n q qs) := fun Φ S ε τ er hB => (hs Φ S ε τ er hB).bind fun S1 ds ts p1 r1 => by
  rw [r1.len]
  split
  · exact hf Φ S1 ds ts r1 (hB.pre p1)
  · trivial
def litsT : T → Option (List T)
  | .seq ts => some ts
  | .lst ts => some ts
  | _ => none
theorem lits_T {Φ : Nat → Prop} {S : Sto} {d : D} {t : T} (r : Rd Φ S d t) : (litems S d = none ∧ litsT t = none) ∨ ∃ ds ts, litems S d = some ds ∧ litsT t = some ts ∧ Rds Φ S ds ts := by
  cases r with
  | seq rs => exact .inr ⟨_, _, rfl, rfl, rs⟩
  | lst _ e rs => exact .inr ⟨_, _, by simp only [litems, e], rfl, rs⟩
  | dct _ e rs => exact .inl ⟨by simp only [litems, e], rfl⟩
  | _ => exact .inl ⟨rfl, rfl⟩
def one1 (f : T → RT T) : TFn := fun ts => match ts with
  | [t] => f t
  | _ => .bad
theorem fn_one {f : Fn} {q : T → RT T} (h : ∀ Φ S d t, Rd Φ S d t → Bnd Φ S → OkR Rd Φ S (f [d] S) (q t)) : FnT f (one1 q) := fun Φ S ds ts r hB => by
  cases r with
  | nil => trivial
  | cons h1 t => cases t with
    | nil => exact h _ _ _ _ h1 hB
    | cons => trivial
def qLen : TFn := one1 fun d => match d with
  | .str z => if z.length ≤ big then .ok (.int z.length) else .bad
  | d => match itsT d with
    | some xs => .ok (.int xs.length)
    | none => .bad
theorem sf_len : FnT fLen qLen := fn_one fun Φ S d t r hB => by
  cases r with
  | str z =>
    simp only [fLen]
    split
    · exact .here (.int _)
    · trivial
  | tup rs => simp only [fLen, items, itsT, rs.len]; exact .here (.int _)
  | seq rs => simp only [fLen, items, itsT, rs.len]; exact .here (.int _)
  | lst _ e rs => simp only [fLen, items, itsT, e, rs.len]; exact .here (.int _)
  | _ => trivial
def qI : TFn := one1 fun d => match d with
  | .int i => .ok (.int i)
  | .bl b => .ok (.int (if b then 1 else 0))
  | _ => .bad
def qStrI : TFn := one1 fun d => match d with
  | .int i => if i.natAbs.log2 < 1920 then .ok (.str (toString i)) else .bad
  | _ => .bad
theorem sf_strI : FnT fStrI qStrI := fn_one fun Φ S d t r hB => by
  cases r <;> try trivial
  simp only [fStrI]
  split
  · exact .here (.str _)
  · trivial
def qList : TFn := one1 fun d => match itsT d with
  | some xs => .ok (.lst xs)
  | none => .bad
theorem sf_list : FnT fList qList := fn_one fun Φ S d t r hB => by
  unfold fList
  rcases items_T r with ⟨e1, e2⟩ | ⟨ds, ts, e1, e2, rs⟩
  · simp only [e1, e2]; trivial
  · simp only [e1, e2]; exact .newL hB rs
def qTuple : TFn := one1 fun d => match itsT d with
  | some xs => .ok (.tup xs)
  | none => .bad
theorem sf_tuple : FnT fTuple qTuple := fn_one fun Φ S d t r hB => by
  unfold fTuple
  rcases items_T r with ⟨e1, e2⟩ | ⟨ds, ts, e1, e2, rs⟩
  · simp only [e1, e2]; trivial
  · simp only [e1, e2]; exact .here (.tup rs)
def blT : T → Option Bool
  | .bl i => some i
  | _ => none
theorem fall_T {α : Type} {Φ : Nat → Prop} {S : Sto} {f : D → Option α} {g : T → Option α} (h : ∀ d t, Rd Φ S d t → f d = g t) : ∀ {ds : List D} {ts : List T}, Rds Φ S ds ts → fall f ds = fall g ts
  | _, _, .nil => rfl
  | _, _, .cons a b => by
    simp only [fall, h _ _ a, fall_T h b]
def qLstF (f : List T → RT T) : TFn := one1 fun d => match litsT d with
  | some xs => f xs
  | none => .bad
theorem sf_lstF {f : List D → Sto → R D} {q : List T → RT T} (h : ∀ Φ S ds ts, Rds Φ S ds ts → Bnd Φ S → OkR Rd Φ S (f ds S) (q ts)) : FnT (fLst f) (qLstF q) := fn_one fun Φ S d t r hB => by
  unfold fLst
  rcases lits_T r with ⟨e1, e2⟩ | ⟨ds, ts, e1, e2, rs⟩
  · simp only [e1, e2]; trivial
  · simp only [e1, e2]; exact h _ _ _ _ rs hB
theorem bl_T {Φ : Nat → Prop} {S : Sto} (d : D) (t : T) (r : Rd Φ S d t) : blD d = blT t := by cases r <;> rfl
def qAll : TFn := qLstF fun xs => match fall blT xs with
  | some ns => .ok (.bl (ns.all id))
  | none => .bad
theorem sf_all : FnT fAll qAll := sf_lstF fun Φ S ds ts r hB => by
  rw [fall_T bl_T r]
  cases fall blT ts with
  | none => trivial
  | some ns => exact .here (.bl _)
def tyT : T → String
  | .non => "NoneType"
  | .bl _ => "bool"
  | .int _ => "int"
  | .str _ => "str"
  | .tup _ => "tuple"
  | .seq _ => "list"
  | .lst _ => "list"
  | .dct _ => "dict"
theorem ty_T {Φ : Nat → Prop} {S : Sto} {d : D} {t : T} (r : Rd Φ S d t) : tyD S d = some (tyT t) := by
  cases r with
  | lst _ e _ => simp only [tyD, e]; rfl
  | dct _ e _ => simp only [tyD, e]; rfl
  | _ => rfl
def tIsi (c : String) (p : TDen) : TDen := fun τ => (p τ).bind fun d => match kitB (tyT d) c with
  | some b => .ok (.bl b)
  | none => .bad
theorem snd_isi {k : String} (ha : SndE j a p) : SndE j (dIsi k a) (tIsi k p) := fun Φ S ε τ er hB => (ha Φ S ε τ er hB).bind fun S1 d t p1 r1 => by
  unfold isiD
  rw [ty_T r1]
  show OkR Rd Φ S1 (match kitB (tyT t) k with | some b => _ | none => _) _
  cases kitB (tyT t) k with
  | none => trivial
  | some b => exact .here (.bl _)
def signsT (x : Str) : List T := x.cps.toList.map fun c => .str ⟨#[c]⟩
theorem signs_T {Φ : Nat → Prop} {S : Sto} (x : Str) : Rds Φ S (signs x) (signsT x) := Rds.maps fun _ _ => .str _
end
end DL

set_option Elab.async false
set_option linter.all false
set_option maxRecDepth 100000
set_option maxHeartbeats 1000000
namespace DL
open PySem L2
def Keep (Φ : Nat → Prop) (S S' : Sto) : Prop := ∀ (n : Nat) (o : O), ¬ Φ n → S[n]? = some o → S'[n]? = some o
theorem Keep.refl {Φ : Nat → Prop} {S : Sto} : Keep Φ S S := fun _ _ _ e => e
theorem Keep.trans {Φ : Nat → Prop} {S S1 S2 : Sto} (a : Keep Φ S S1) (b : Keep Φ S1 S2) : Keep Φ S S2 := fun n o h e => b n o h (a n o h e)
theorem Keep.pre {Φ : Nat → Prop} {S S' : Sto} (p : S <+: S') : Keep Φ S S' := fun n o _ e => by
  obtain ⟨E, rfl⟩ := p
  rw [List.getElem?_append_left (List.getElem?_eq_some_iff.mp e).1]
  exact e
def rqI : RlT Src (List T) := fun Φ S src ts => ∃ ds, (∀ S', Keep Φ S S' → src S' = some ds) ∧ Rds Φ S ds ts
abbrev TIt := TEnv → RT (List T)
abbrev SndI (j : Option Nat) (a : IDen) (q : TIt) : Prop := Snd rqI j a q
section
variable {j : Option Nat} {a b c : Den} {p q r : TDen} {as : DenA} {qs : TDenA} {ba bb : DenB} {γ δ : TDenB}
theorem litems_keep {Φ : Nat → Prop} {S S' : Sto} {d : D} {t : T} (r : Rd Φ S d t) (k : Keep Φ S S') : litems S' d = litems S d := by
  cases r with
  | lst h e _ => simp only [litems, e, k _ _ h e]
  | dct h e _ => simp only [litems, e, k _ _ h e]
  | _ => rfl
def tiAny (p : TDen) : TIt := fun τ => (p τ).bind fun d => match d with
  | .tup ts => .ok ts
  | .str x => .ok (signsT x)
  | d => (match litsT d with
    | some ts => .ok ts
    | none => .bad)
theorem si_any (ha : SndE j a p) : SndI j (iAny a) (tiAny p) := fun Φ S ε τ er hB => (ha Φ S ε τ er hB).bind fun S1 d t p1 r1 => by
  cases r1 with
  | tup rs => exact .here ⟨_, fun _ _ => rfl, rs⟩
  | str x => exact .here ⟨_, fun _ _ => rfl, signs_T x⟩
  | seq rs => exact .here ⟨_, fun _ _ => rfl, rs⟩
  | lst h e rs =>
    simp only [litems, e, litsT]
    exact .here ⟨_, fun S' k => by simp only [k _ _ h e], rs⟩
  | _ => trivial
def pairsT : List T → List T → List T
  | a :: as, b :: bs => .tup [a, b] :: pairsT as bs
  | _, _ => []
theorem pairs_R {Φ : Nat → Prop} {S : Sto} : ∀ {ds es : List D} {ts us : List T}, Rds Φ S ds ts → Rds Φ S es us → Rds Φ S (pairs ds es) (pairsT ts us)
  | _, _, _, _, .nil, _ => by simp only [pairs, pairsT]; exact .nil
  | _, _, _, _, .cons _ _, .nil => by simp only [pairs, pairsT]; exact .nil
  | _, _, _, _, .cons h t, .cons h' t' => .cons (.tup (.cons h (.cons h' .nil))) (pairs_R t t')
def txtsT : List T → Bool
  | [] => true
  | .str _ :: r => txtsT r
  | _ :: _ => false
theorem txts_R {Φ : Nat → Prop} {S : Sto} : ∀ {ds : List D} {ts : List T}, Rds Φ S ds ts → txts ds = txtsT ts
  | _, _, .nil => rfl
  | _, _, .cons h t => by
    cases h <;> first | (simp only [txts, txtsT]; exact txts_R t) | simp only [txts, txtsT]
def untT : T → Bool
  | .tup ts => !txtsT ts
  | _ => false
theorem unt_R {Φ : Nat → Prop} {S : Sto} {d : D} {t : T} (h : Rd Φ S d t) : unt d = untT t := by
  cases h <;> first | rfl | (rename_i rs; simp only [unt, untT, txts_R rs])
theorem unts_R {Φ : Nat → Prop} {S : Sto} : ∀ {ds : List D} {ts : List T}, Rds Φ S ds ts → ds.all unt = ts.all untT
  | _, _, .nil => rfl
  | _, _, .cons h t => by rw [List.all_cons, List.all_cons, unt_R h, unts_R t]
def zipD2 (d e : D) (S : Sto) : R Src := match litems S d, litems S e with
    | some _, some _ => .ok (fun S => match litems S d, litems S e with
      | some xs, some ys => if (pairs xs ys).all unt = true then some (pairs xs ys) else none
      | _, _ => none) S
    | _, _ => .bad
def zipD (d e : D) (S : Sto) : R Src := match d, e with
  | .tup xs, .tup ys => if (pairs xs ys).all unt = true then .ok (fun _ => some (pairs xs ys)) S else .bad
  | d, e => zipD2 d e S
def pairsOk (xs ys : List T) : RT (List T) := if (pairsT xs ys).all untT = true then .ok (pairsT xs ys) else .bad
def zipT (d e : T) : RT (List T) := match d, e with
  | .tup xs, .tup ys => pairsOk xs ys
  | d, e => match litsT d, litsT e with
    | some xs, some ys => pairsOk xs ys
    | _, _ => .bad
theorem zipD_of {d e : D} {S : Sto} (h : ¬((∃ xs, d = D.tup xs) ∧ ∃ ys, e = D.tup ys)) : zipD d e S = zipD2 d e S := by
  cases d <;> cases e <;> first | rfl | exact absurd ⟨⟨_, rfl⟩, _, rfl⟩ h
theorem zipT_of {d e : T} (h : ¬((∃ xs, d = T.tup xs) ∧ ∃ ys, e = T.tup ys)) : zipT d e = match litsT d, litsT e with
    | some xs, some ys => pairsOk xs ys
    | _, _ => .bad := by
  cases d <;> cases e <;> first | rfl | exact absurd ⟨⟨_, rfl⟩, _, rfl⟩ h
def tiZip (p q : TDen) : TIt := fun τ => (p τ).bind fun d => (q τ).bind fun e => zipT d e
theorem si_zip (ha : SndE j a p) (hb : SndE j b q) : SndI j (iZipD a b) (tiZip p q) := fun Φ S ε τ er hB => (ha Φ S ε τ er hB).bind fun S1 d t p1 r1 => (hb Φ S1 ε τ (er.pre p1) (hB.pre p1)).bind fun S2 e u p2 r2 => by
  have r1' := r1.pre p2
  by_cases h : (∃ xs, d = .tup xs) ∧ ∃ ys, e = .tup ys
  · obtain ⟨⟨xs, rfl⟩, ys, rfl⟩ := h
    cases r1' with
    | tup ra => cases r2 with
      | tup rb =>
        have pr := pairs_R ra rb
        show OkR rqI Φ S2 (if (pairs xs ys).all unt = true then R.ok (fun _ => some (pairs xs ys)) S2 else R.bad) (pairsOk _ _)
        simp only [pairsOk, unts_R pr]
        split
        · exact .here ⟨_, fun _ _ => rfl, pr⟩
        · trivial
  · have nt : ∀ (l : Option (List D)) (l' : Option (List D)), True := fun _ _ => trivial
    have key : OkR rqI Φ S2 (zipD d e S2) (zipT t u) := by
      rw [zipD_of h, zipT_of fun h' => h (by
        obtain ⟨⟨xs, rfl⟩, ys, rfl⟩ := h'
        cases r1'
        cases r2
        exact ⟨⟨_, rfl⟩, _, rfl⟩)]
      rcases lits_T r1' with ⟨e1, e2⟩ | ⟨ds, ts, e1, e2, rs⟩
      · simp only [zipD2, e1, e2]; trivial
      · rcases lits_T r2 with ⟨e3, e4⟩ | ⟨es, us, e3, e4, ru⟩
        · simp only [zipD2, e1, e2, e3, e4]; trivial
        · have pr := pairs_R rs ru
          simp only [zipD2, e1, e2, e3, e4, pairsOk]
          split
          · rename_i hu
            refine .here ⟨pairs ds es, fun S' k => ?_, pr⟩
            simp only [litems_keep r1' k, litems_keep r2 k, e1, e3, unts_R pr, hu, if_true]
          · trivial
    exact key
def numT (i : Nat) : List T → List T
  | [] => []
  | d :: ds => .tup [.int (i : Int), d] :: numT (i + 1) ds
theorem num_R {Φ : Nat → Prop} {S : Sto} : ∀ {ds : List D} {ts : List T} (i : Nat), Rds Φ S ds ts → Rds Φ S (numbered i ds) (numT i ts)
  | _, _, _, .nil => .nil
  | _, _, i, .cons h t => .cons (.tup (.cons (.int _) (.cons h .nil))) (num_R (i + 1) t)
abbrev TG := T → TEnv → Option TEnv
abbrev TGs := List T → TEnv → Option TEnv
def SndG (j : Option Nat) (g : GDen) (h : DL.TG) : Prop := ∀ Φ S ε τ d t, EnvR Φ j S ε τ → Rd Φ S d t → ∀ τ', h t τ = some τ' → ∃ ε', g d ε S = some ε' ∧ EnvR Φ j S ε' τ' ∧ ∀ i, j = some i → ε'[i]? = ε[i]? ∧ τ'[i]? = τ[i]?
def SndGs (j : Option Nat) (g : GDens) (h : DL.TGs) : Prop := ∀ Φ S ε τ d t, EnvR Φ j S ε τ → Rds Φ S d t → ∀ τ', h t τ = some τ' → ∃ ε', g d ε S = some ε' ∧ EnvR Φ j S ε' τ' ∧ ∀ i, j = some i → ε'[i]? = ε[i]? ∧ τ'[i]? = τ[i]?
def hN (i : Nat) : DL.TG := fun t τ => some (τ.set i (some t))
theorem sg_name (k : Nat) (h : j ≠ some k := by decide) : SndG j (gN k) (hN k) := fun Φ S ε τ d t er r τ' e => by
  cases e
  refine ⟨_, rfl, er.set k r, fun i hi => ?_⟩
  have hk : k ≠ i := fun q => h (by rw [hi, q])
  exact ⟨List.getElem?_set_ne hk, List.getElem?_set_ne hk⟩
def hsNil : DL.TGs := fun ts τ => match ts with
  | [] => some τ
  | _ => none
def hsCons (g : DL.TG) (r : DL.TGs) : DL.TGs := fun ts τ => match ts with
  | t :: ts => (g t τ).bind fun τ => r ts τ
  | [] => none
theorem sg_nil : SndGs j gsNil hsNil := fun Φ S ε τ d t er r τ' e => by
  cases r with
  | nil => cases e; exact ⟨ε, rfl, er, fun _ _ => ⟨rfl, rfl⟩⟩
  | cons => cases e
theorem sg_cons {g : GDen} {gs : GDens} {h : DL.TG} {hs : DL.TGs} (h1 : SndG j g h) (h2 : SndGs j gs hs) : SndGs j (gsCons g gs) (hsCons h hs) := fun Φ S ε τ d t er r τ' e => by
  cases r with
  | nil => cases e
  | cons r rs =>
    obtain ⟨τ1, e1, e2⟩ := Option.bind_eq_some_iff.mp (show (h _ τ).bind (fun τ => hs _ τ) = some τ' from e)
    obtain ⟨ε1, a1, a2, a3⟩ := h1 Φ S ε τ _ _ er r τ1 e1
    obtain ⟨ε2, b1, b2, b3⟩ := h2 Φ S ε1 τ1 _ _ a2 rs τ' e2
    refine ⟨ε2, ?_, b2, fun i hi => ⟨(b3 i hi).1.trans (a3 i hi).1, (b3 i hi).2.trans (a3 i hi).2⟩⟩
    show (g _ ε S).bind (fun ε => gs _ ε S) = _
    rw [a1]
    exact b1
def hT (n : Nat) (g : DL.TGs) : DL.TG := fun t τ => match t with
  | .tup ts => if ts.length = n then g ts τ else none
  | _ => none
def hL (n : Nat) (g : DL.TGs) : DL.TG := fun t τ => match litsT t with
  | some ts => if ts.length = n then g ts τ else none
  | none => none
theorem sg_tup {n : Nat} {g : GDens} {h : DL.TGs} (h1 : SndGs j g h) : SndG j (gT n g) (hT n h) := fun Φ S ε τ d t er r τ' e => by
  cases r with
  | tup rs =>
    simp only [hT] at e
    simp only [gT, rs.len]
    split at e
    · rename_i hn
      rw [if_pos hn]
      exact h1 Φ S ε τ _ _ er rs τ' e
    · cases e
  | _ => cases e
def noXT {α : Type} : RT α → RT α
  | .ok a => .ok a
  | _ => .bad
def tlcI (g : DL.TG) (c : TDenB) (e : TDen) (vs : List Nat) (τ : TEnv) : List T → List T → RT (List T)
  | [], acc => .ok acc
  | t :: r, acc => match g t (twipe τ vs) with
    | none => .bad
    | some τ1 => (noXT (c τ1)).bind fun k => if k = true then (noXT (e τ1)).bind fun x => (if acc.length < big then tlcI g c e vs τ r (acc ++ [x]) else .bad) else tlcI g c e vs τ r acc
def tLc (it : TIt) (g : DL.TG) (c : TDenB) (e : TDen) (vs : List Nat) : TDen := fun τ => (it τ).bind fun ts => (tlcI g c e vs τ ts []).bind fun us => .ok (.lst us)
theorem OkR.noX {β α : Type} {Rl : RlT β α} {Φ : Nat → Prop} {S : Sto} {r : R β} {q : RT α} (h : OkR Rl Φ S r q) : OkR Rl Φ S (DL.noX r) (noXT q) := by
  cases q with
  | ok t => obtain ⟨S', d, rfl, p, rl⟩ := h; exact ⟨S', d, rfl, p, rl⟩
  | exc c => trivial
  | bad => trivial
theorem lc_sim {g : GDen} {h : DL.TG} {e : Den} {x : TDen} {vs : List Nat} (hg : SndG j g h) (hc : SndB j ba γ) (he : SndE j e x) {Φ : Nat → Prop} {ε : Env} {τ : TEnv} {src : Src} {ds : List D} :
    ∀ (rest acc : List T) (restD accD : List D) (i m : Nat) (S : Sto), ds = ds.take i ++ restD → i ≤ ds.length → restD.length < m → (∀ S', Keep Φ S S' → src S' = some ds) → Rds Φ S restD rest → Rds Φ S accD acc → EnvR Φ j S ε τ → Bnd Φ S →
      OkR Rds Φ S (lcI src g ba e vs ε m i accD S) (tlcI h γ x vs τ rest acc)
  | _, _, _, _, _, 0, _, _, _, hm, _, _, _, _, _ => by omega
  | [], acc, [], accD, i, m + 1, S, hd, hi, hm, hs, .nil, ra, er, hB => by
    unfold lcI
    rw [hs S Keep.refl]
    have : ds[i]? = none := by
      rw [List.getElem?_eq_none_iff]
      have := congrArg List.length hd
      rw [List.append_nil, List.length_take] at this
      omega
    simp only [this]
    exact .here ra
  | t :: rest, acc, d :: restD, accD, i, m + 1, S, hd, hi, hm, hs, .cons r rs, ra, er, hB => by
    have hdi : ds[i]? = some d := by
      rw [hd, List.getElem?_append_right (by rw [List.length_take]; omega), List.length_take, Nat.min_eq_left hi, Nat.sub_self]
      rfl
    have hil : i < ds.length := (List.getElem?_eq_some_iff.mp hdi).1
    have hd' : ds = ds.take (i + 1) ++ restD := by
      have := List.take_append_drop (i + 1) ds
      have h2 : ds.drop (i + 1) = restD := by
        have h3 : ds.drop i = d :: restD := by
          conv => lhs; rw [hd]
          rw [List.drop_append_of_le_length (by rw [List.length_take]; omega), List.drop_eq_nil_of_le (by rw [List.length_take]; omega)]
          rfl
        rw [← List.drop_drop, h3]
        rfl
      rw [h2] at this
      exact this.symm
    unfold lcI tlcI
    rw [hs S Keep.refl]
    simp only [hdi]
    cases e1 : h t (twipe τ vs) with
    | none => trivial
    | some τ1 =>
      obtain ⟨ε1, g1, er1, _⟩ := hg Φ S _ _ d t (er.wipe vs) r τ1 e1
      simp only [g1]
      refine (hc Φ S ε1 τ1 er1 hB).noX.bind fun S1 k k' p1 r1 => ?_
      cases r1
      split
      · refine (he Φ S1 ε1 τ1 (er1.pre p1) (hB.pre p1)).noX.bind fun S2 d2 t2 p2 r2 => ?_
        rw [ra.len]
        split
        · exact lc_sim hg hc he rest (acc ++ [t2]) restD (accD ++ [d2]) (i + 1) m S2 hd' hil (by simp at hm; omega) (fun S' k => hs S' ((Keep.pre (p1.trans p2)).trans k)) ((rs.pre p1).pre p2) (((ra.pre p1).pre p2).app (.cons r2 .nil)) ((er.pre p1).pre p2) ((hB.pre p1).pre p2)
        · trivial
      · exact lc_sim hg hc he rest acc restD accD (i + 1) m S1 hd' hil (by simp at hm; omega) (fun S' k => hs S' ((Keep.pre p1).trans k)) (rs.pre p1) (ra.pre p1) (er.pre p1) (hB.pre p1)
theorem snd_lc {it : IDen} {ι : TIt} {g : GDen} {h : DL.TG} {e : Den} {x : TDen} {vs : List Nat} (hi : SndI j it ι) (hg : SndG j g h) (hc : SndB j ba γ) (he : SndE j e x) : SndE j (dLc it g ba e vs) (tLc ι h γ x vs) := fun Φ S ε τ er hB =>
  (hi Φ S ε τ er hB).bind fun S1 src ts p1 ⟨ds, r1, rs⟩ => by
    simp only [r1 S1 Keep.refl]
    refine (lc_sim hg hc he ts [] ds [] 0 (ds.length + 1) S1 rfl (Nat.zero_le _) (Nat.lt_succ_self _) r1 rs .nil (er.pre p1) (hB.pre p1)).bind fun S2 us ws p2 r2 => ?_
    exact .newL ((hB.pre p1).pre p2) r2
end
inductive TFl where
  | nx (τ : TEnv) | rt (t : T) | ex (c : Str) (τ : TEnv)
abbrev TSDen := TEnv → RT TFl
def plus (Φ : Nat → Prop) (n : Nat) : Nat → Prop := fun k => Φ k ∨ k = n
def frb (Φ : Nat → Prop) (j : Option Nat) (n : Nat) : Nat → Prop := match j with
  | none => Φ
  | some _ => plus Φ n
def OwnR (B : Nat) (Φ : Nat → Prop) (j : Option Nat) (n : Nat) (S : Sto) (ε : Env) (τ : TEnv) : Prop := match j with
  | none => EnvR Φ none S ε τ
  | some i => B ≤ n ∧ n < S.length ∧ (∃ ds ts, ε[i]? = some (some (.ref n)) ∧ S[n]? = some (.lst ds) ∧ Rds (plus Φ n) S ds ts ∧ τ[i]? = some (some (.lst ts))) ∧ EnvR (plus Φ n) (some i) S ε τ
theorem OwnR.env {B : Nat} {Φ : Nat → Prop} {j : Option Nat} {n : Nat} {S : Sto} {ε : Env} {τ : TEnv} (h : OwnR B Φ j n S ε τ) : EnvR (frb Φ j n) j S ε τ := by
  cases j with
  | none => exact h
  | some i => exact h.2.2.2
theorem OwnR.bnd {B : Nat} {Φ : Nat → Prop} {j : Option Nat} {n : Nat} {S : Sto} {ε : Env} {τ : TEnv} (h : OwnR B Φ j n S ε τ) (hb : Bnd Φ S) : Bnd (frb Φ j n) S := by
  cases j with
  | none => exact hb
  | some i =>
    intro k q
    rcases q with q | rfl
    · exact hb k q
    · exact h.2.1
theorem OwnR.keep {B : Nat} {Φ : Nat → Prop} {j : Option Nat} {n : Nat} {S S' : Sto} {ε : Env} {τ : TEnv} (h : OwnR B Φ j n S ε τ) (p : S <+: S') : OwnR B Φ j n S' ε τ := by
  cases j with
  | none => exact EnvR.pre h p
  | some i =>
    obtain ⟨h1, h2, ⟨ds, ts, a1, a2, a3, a4⟩, h4⟩ := h
    refine ⟨h1, Nat.lt_of_lt_of_le h2 p.length_le, ⟨ds, ts, a1, ?_, a3.pre p, a4⟩, h4.pre p⟩
    obtain ⟨E, rfl⟩ := p
    rw [List.getElem?_append_left h2]
    exact a2
theorem OwnR.rel {B : Nat} {Φ : Nat → Prop} {j : Option Nat} {n : Nat} {S : Sto} {ε : Env} {τ : TEnv} (h : OwnR B Φ j n S ε τ) (hb : ∀ k, Φ k → k < B) : EnvR Φ none S ε τ := by
  cases j with
  | none => exact h
  | some i =>
    obtain ⟨h1, h2, ⟨ds, ts, a1, a2, a3, a4⟩, h4⟩ := h
    refine ⟨h4.len, fun k t _ e => ?_⟩
    by_cases q : k = i
    · subst q
      rw [a4] at e
      cases e
      exact ⟨_, a1, .lst (fun q => by have := hb _ q; omega) a2 (a3.keep (fun _ _ q => .inl q) fun _ _ _ e => e)⟩
    · obtain ⟨d, e1, e2⟩ := h4.at_ k t (by simp; exact fun z => q z.symm) e
      exact ⟨d, e1, e2.keep (fun _ _ q => .inl q) fun _ _ _ e => e⟩
structure NxR (B : Nat) (Φ : Nat → Prop) (j : Option Nat) (n : Nat) (S : Sto) (j' : Option Nat) (S' : Sto) (ε' : Env) (τ' : TEnv) : Prop where
  ln : S.length ≤ S'.length
  kp : Keep (frb Φ j n) S S'
  lo : ∀ (k : Nat) (o : O), k < B → S[k]? = some o → S'[k]? = some o
  ow : ∃ n', OwnR B Φ j' n' S' ε' τ' ∧ ((j.isSome = true ∧ n' = n) ∨ S.length ≤ n' ∨ j' = none)
def OkF (B : Nat) (Φ : Nat → Prop) (j : Option Nat) (n : Nat) (S : Sto) (j' : Option Nat) (r : R Fl) : RT TFl → Prop
  | .ok (.nx τ') => ∃ S' ε', r = .ok (.nx ε') S' ∧ NxR B Φ j n S j' S' ε' τ'
  | .ok (.rt t) => ∃ S' d, r = .ok (.rt d) S' ∧ (∀ (k : Nat) (o : O), k < B → S[k]? = some o → S'[k]? = some o) ∧ Rd Φ S' d t ∧ S.length ≤ S'.length
  | .ok (.ex c τ') => ∃ S' ε', r = .ok (.ex c ε') S' ∧ NxR B Φ j n S none S' ε' τ'
  | .exc _ => True
  | .bad => True
def SndS (j j' : Option Nat) (a : SDen) (q : TSDen) : Prop := ∀ B Φ n S ε τ, OwnR B Φ j n S ε τ → (∀ k, Φ k → k < B) → B ≤ S.length → OkF B Φ j n S j' (a ε S) (q τ)
end DL

set_option Elab.async false
set_option linter.all false
set_option maxRecDepth 100000
set_option maxHeartbeats 1000000
namespace DL
open PySem L2
section
variable {B n : Nat} {Φ : Nat → Prop} {j j' j1 j2 : Option Nat} {S S' S1 S2 : Sto} {ε ε' ε1 : Env} {τ τ' τ1 : TEnv}
theorem NxR.trans {n1 : Nat} (h : S.length ≤ S1.length) (kp : Keep (frb Φ j n) S S1) (lo : ∀ (k : Nat) (o : O), k < B → S[k]? = some o → S1[k]? = some o) (hn : (j.isSome = true ∧ n1 = n) ∨ S.length ≤ n1 ∨ j1 = none)
    (b : NxR B Φ j1 n1 S1 j2 S2 ε' τ') : NxR B Φ j n S j2 S2 ε' τ' := by
  refine ⟨Nat.le_trans h b.ln, fun k o hk e => b.kp k o (fun q => ?_) (kp k o hk e), fun k o hk e => b.lo k o hk (lo k o hk e), ?_⟩
  · have hl : k < S.length := (List.getElem?_eq_some_iff.mp e).1
    cases j1 with
    | none =>
      apply hk
      cases j with
      | none => exact q
      | some i => exact .inl q
    | some i1 =>
      rcases q with q | rfl
      · apply hk
        cases j with
        | none => exact q
        | some i => exact .inl q
      · rcases hn with ⟨hj, rfl⟩ | hn | hn
        · cases j with
          | none => cases hj
          | some i => exact hk (.inr rfl)
        · omega
        · cases hn
  · obtain ⟨n2, o2, h2⟩ := b.ow
    refine ⟨n2, o2, ?_⟩
    rcases h2 with ⟨hj, rfl⟩ | h2 | h2
    · rcases hn with hn | hn | hn
      · exact .inl hn
      · exact .inr (.inl hn)
      · subst hn; cases hj
    · exact .inr (.inl (Nat.le_trans h h2))
    · exact .inr (.inr h2)
theorem OkF.up {n1 : Nat} {r : R Fl} {q : RT TFl} (h : S.length ≤ S1.length) (kp : Keep (frb Φ j n) S S1) (lo : ∀ (k : Nat) (o : O), k < B → S[k]? = some o → S1[k]? = some o) (hn : (j.isSome = true ∧ n1 = n) ∨ S.length ≤ n1 ∨ j1 = none)
    (b : OkF B Φ j1 n1 S1 j2 r q) : OkF B Φ j n S j2 r q := by
  cases q with
  | ok f => cases f with
    | nx τ => obtain ⟨S', ε', e, x⟩ := b; exact ⟨S', ε', e, x.trans h kp lo hn⟩
    | rt t => obtain ⟨S', d, e, x, y, z⟩ := b; exact ⟨S', d, e, fun k o hk e => x k o hk (lo k o hk e), y, Nat.le_trans h z⟩
    | ex c τ => obtain ⟨S', ε', e, x⟩ := b; exact ⟨S', ε', e, x.trans h kp lo hn⟩
  | exc c => trivial
  | bad => trivial
theorem OkF.upp {r : R Fl} {q : RT TFl} (p : S <+: S1) (b : OkF B Φ j n S1 j2 r q) : OkF B Φ j n S j2 r q := by
  refine OkF.up (n1 := n) (j1 := j) p.length_le (Keep.pre p) (fun k o _ e => ?_) ?_ b
  · obtain ⟨E, rfl⟩ := p
    rw [List.getElem?_append_left (List.getElem?_eq_some_iff.mp e).1]
    exact e
  · cases j with
    | none => exact .inr (.inr rfl)
    | some i => exact .inl ⟨rfl, rfl⟩
theorem nx_here (ow : OwnR B Φ j n S ε τ) : NxR B Φ j n S j S ε τ := by
  refine ⟨Nat.le_refl _, Keep.refl, fun _ _ _ e => e, n, ow, ?_⟩
  cases j with
  | none => exact .inr (.inr rfl)
  | some i => exact .inl ⟨rfl, rfl⟩
theorem OwnR.drop (ow : OwnR B Φ j n S ε τ) (hb : ∀ k, Φ k → k < B) : NxR B Φ j n S none S ε τ :=
  ⟨Nat.le_refl _, Keep.refl, fun _ _ _ e => e, n, ow.rel hb, .inr (.inr rfl)⟩
theorem NxR.rel (h : NxR B Φ j n S j' S' ε' τ') (hb : ∀ k, Φ k → k < B) : NxR B Φ j n S none S' ε' τ' := by
  obtain ⟨n', o, _⟩ := h.ow
  exact ⟨h.ln, h.kp, h.lo, n', o.rel hb, .inr (.inr rfl)⟩
def tsE {α : Type} (q : RT α) (τ : TEnv) (κ : α → RT TFl) : RT TFl := match q with
  | .ok t => κ t
  | .exc c => .ok (.ex c τ)
  | .bad => .bad
theorem OkF.sE {β α : Type} {Rl : RlT β α} {r : R β} {q : RT α} {k : β → Sto → R Fl} {κ : α → RT TFl} (ow : OwnR B Φ j n S ε τ) (hb : ∀ k, Φ k → k < B) (h : OkR Rl (frb Φ j n) S r q)
    (hk : ∀ S' d t, S <+: S' → Rl (frb Φ j n) S' d t → OkF B Φ j n S' j' (k d S') (κ t)) : OkF B Φ j n S j' (DL.sE r ε k) (tsE q τ κ) := by
  cases q with
  | ok t =>
    obtain ⟨S', d, rfl, p, rl⟩ := h
    exact (hk S' d t p rl).upp p
  | exc c =>
    obtain ⟨S', rfl, p⟩ := h
    refine OkF.upp (q := .ok (.ex c τ)) p ⟨S', ε, rfl, (ow.keep p).drop hb⟩
  | bad => trivial
variable {a b : SDen} {q q' : TSDen}
theorem bnd_of (hb : ∀ k, Φ k → k < B) (hl : B ≤ S.length) : Bnd Φ S := fun k q => Nat.lt_of_lt_of_le (hb k q) hl
def tsNil : TSDen := fun τ => .ok (.nx τ)
theorem ss_nil : SndS j j sNil tsNil := fun B Φ n S ε τ ow hb hl => ⟨S, ε, rfl, nx_here ow⟩
def tsN (q : RT TFl) (k : TEnv → RT TFl) : RT TFl := match q with
  | .ok (.nx τ) => k τ
  | q => q
def tsSeq (q q' : TSDen) : TSDen := fun τ => tsN (q τ) q'
theorem ss_seq (ha : SndS j j1 a q) (hb' : SndS j1 j2 b q') : SndS j j2 (sSeq a b) (tsSeq q q') := fun B Φ n S ε τ ow hb hl => by
  have h := ha B Φ n S ε τ ow hb hl
  unfold sSeq tsSeq
  cases e : q τ with
  | ok f =>
    rw [e] at h
    cases f with
    | nx τ1 =>
      obtain ⟨S1, ε1, e1, x⟩ := h
      rw [e1]
      obtain ⟨n1, o1, h1⟩ := x.ow
      exact (hb' B Φ n1 S1 ε1 τ1 o1 hb (Nat.le_trans hl x.ln)).up x.ln x.kp x.lo h1
    | rt t => obtain ⟨S1, d, e1, x⟩ := h; rw [e1]; exact ⟨S1, d, rfl, x⟩
    | ex c τ1 => obtain ⟨S1, d, e1, x⟩ := h; rw [e1]; exact ⟨S1, d, rfl, x⟩
  | exc c => trivial
  | bad => trivial
theorem ss_rel (ha : SndS j j' a q) : SndS j none a q := fun B Φ n S ε τ ow hb hl => by
  have h := ha B Φ n S ε τ ow hb hl
  cases e : q τ with
  | ok f =>
    rw [e] at h
    cases f with
    | nx τ1 => obtain ⟨S1, ε1, e1, x⟩ := h; exact ⟨S1, ε1, e1, x.rel hb⟩
    | rt t => exact h
    | ex c τ1 => exact h
  | exc c => trivial
  | bad => trivial
variable {x y : Den} {p p' : TDen} {c : DenB} {γ : TDenB}
def tsRet (p : TDen) : TSDen := fun τ => tsE (p τ) τ fun t => .ok (.rt t)
theorem rt_of {d : D} {t : T} (r : Rd (frb Φ j n) S d t) : Rd Φ S d t := r.keep (fun k _ q => by cases j with | none => exact q | some i => exact .inl q) fun _ _ _ e => e
theorem ss_ret (hx : SndE j x p) : SndS j j' (sRet x) (tsRet p) := fun B Φ n S ε τ ow hb hl =>
  OkF.sE ow hb (hx _ S ε τ ow.env (ow.bnd (bnd_of hb hl))) fun S1 d t p1 r1 => ⟨S1, d, rfl, fun _ _ _ e => e, rt_of r1, Nat.le_refl _⟩
def tsAsg (p : TDen) (g : DL.TG) : TSDen := fun τ => tsE (p τ) τ fun t => match g t τ with
  | some τ' => .ok (.nx τ')
  | none => .bad
theorem OwnR.swap (ow : OwnR B Φ j n S ε τ) (er : EnvR (frb Φ j n) j S ε' τ') (h : ∀ i, j = some i → ε'[i]? = ε[i]? ∧ τ'[i]? = τ[i]?) : OwnR B Φ j n S ε' τ' := by
  cases j with
  | none => exact er
  | some i =>
    obtain ⟨h1, h2, ⟨ds, ts, a1, a2, a3, a4⟩, h4⟩ := ow
    obtain ⟨b1, b2⟩ := h i rfl
    exact ⟨h1, h2, ⟨ds, ts, b1.trans a1, a2, a3, b2.trans a4⟩, er⟩
theorem ss_asg {g : GDen} {h : DL.TG} (hx : SndE j x p) (hg : SndG j g h) : SndS j j (sAsg x g) (tsAsg p h) := fun B Φ n S ε τ ow hb hl =>
  OkF.sE ow hb (hx _ S ε τ ow.env (ow.bnd (bnd_of hb hl))) fun S1 d t p1 r1 => by
    cases e : h t τ with
    | none => trivial
    | some τ' =>
      obtain ⟨ε', g1, g2, g3⟩ := hg _ S1 ε τ d t (ow.env.pre p1) r1 τ' e
      rw [g1]
      exact ⟨S1, ε', rfl, nx_here ((ow.keep p1).swap g2 g3)⟩
def tsIf (c : TDenB) (a b : TSDen) : TSDen := fun τ => tsE (c τ) τ fun k => if k = true then a τ else b τ
theorem ss_if (hc : SndB j c γ) (ha : SndS j j' a q) (hb' : SndS j j' b q') : SndS j j' (sIf c a b) (tsIf γ q q') := fun B Φ n S ε τ ow hb hl =>
  OkF.sE ow hb (hc _ S ε τ ow.env (ow.bnd (bnd_of hb hl))) fun S1 d t p1 r1 => by
    cases r1
    split
    · exact ha B Φ n S1 ε τ (ow.keep p1) hb (Nat.le_trans hl p1.length_le)
    · exact hb' B Φ n S1 ε τ (ow.keep p1) hb (Nat.le_trans hl p1.length_le)
def tForL (g : DL.TG) (b : TSDen) : List T → TSDen
  | [], τ => .ok (.nx τ)
  | t :: r, τ => match g t τ with
    | none => .bad
    | some τ1 => tsN (b τ1) (tForL g b r)
def tsFor (it : TIt) (g : DL.TG) (b : TSDen) : TSDen := fun τ => tsE (it τ) τ fun ts => tForL g b ts τ
theorem drop_step {α : Type} {ds restD : List α} {d : α} {i : Nat} (h : ds.drop i = d :: restD) : ds[i]? = some d ∧ ds.drop (i + 1) = restD := by
  constructor
  · have := congrArg (fun l => l[0]?) h
    simpa [List.getElem?_drop] using this
  · rw [← List.drop_drop, h]
    rfl
theorem for_sim {g : GDen} {h : DL.TG} (hg : SndG j g h) (hbd : SndS j j a q) {src : Src} {ds : List D} {S0 : Sto} {n0 : Nat} (hb : ∀ k, Φ k → k < B) (hl : B ≤ S0.length) (hs : ∀ S', Keep (frb Φ j n0) S0 S' → src S' = some ds) :
    ∀ (rest : List T) (restD : List D) (i m : Nat) (S : Sto) (ε : Env) (τ : TEnv), ds.drop i = restD → restD.length < m → Rds (frb Φ j n0) S0 restD rest → NxR B Φ j n0 S0 j S ε τ →
      OkF B Φ j n0 S0 j (forI src g a m i ε S) (tForL h q rest τ)
  | _, _, _, 0, _, _, _, _, hm, _, _ => by omega
  | [], [], i, m + 1, S, ε, τ, hd, hm, .nil, nx => by
    have hi : ds[i]? = none := by
      rw [List.getElem?_eq_none_iff]
      exact List.drop_eq_nil_iff.mp hd
    unfold forI
    rw [hs S nx.kp]
    simp only [hi]
    exact ⟨S, ε, rfl, nx⟩
  | t :: rest, d :: restD, i, m + 1, S, ε, τ, hd, hm, .cons r rs, nx => by
    obtain ⟨hdi, hd'⟩ := drop_step hd
    unfold forI tForL
    rw [hs S nx.kp]
    simp only [hdi]
    cases e1 : h t τ with
    | none => trivial
    | some τ1 =>
      obtain ⟨n1, o1, h1⟩ := nx.ow
      have rd : Rd (frb Φ j n1) S d t := r.keep (fun k hk q => by
        cases j with
        | none => exact q
        | some i0 =>
          rcases q with q | rfl
          · exact .inl q
          · rcases h1 with ⟨_, h1⟩ | h1 | h1
            · exact .inr h1
            · omega
            · cases h1) nx.kp
      obtain ⟨ε1, g1, er1, g3⟩ := hg _ S ε τ d t o1.env rd τ1 e1
      simp only [g1]
      have hbody := hbd B Φ n1 S ε1 τ1 (o1.swap er1 g3) hb (Nat.le_trans hl nx.ln)
      cases e2 : q τ1 with
      | ok f =>
        rw [e2] at hbody
        cases f with
        | nx τ2 =>
          obtain ⟨S2, ε2, e3, nx2⟩ := hbody
          rw [e3]
          exact for_sim hg hbd hb hl hs rest restD (i + 1) m S2 ε2 τ2 hd' (by simp at hm; omega) rs (nx2.trans nx.ln nx.kp nx.lo h1)
        | rt t2 => obtain ⟨S2, d2, e3, x2⟩ := hbody; rw [e3]; exact ⟨S2, d2, rfl, fun k o hk e => x2.1 k o hk (nx.lo k o hk e), x2.2.1, Nat.le_trans nx.ln x2.2.2⟩
        | ex c τ2 => obtain ⟨S2, d2, e3, x2⟩ := hbody; rw [e3]; exact ⟨S2, d2, rfl, x2.trans nx.ln nx.kp nx.lo h1⟩
      | exc c => trivial
      | bad => trivial
theorem ss_for {it : IDen} {ι : TIt} {g : GDen} {h : DL.TG} (hi : SndI j it ι) (hg : SndG j g h) (hbd : SndS j j a q) : SndS j j (sFor it g a) (tsFor ι h q) := fun B Φ n S ε τ ow hb hl =>
  OkF.sE ow hb (hi _ S ε τ ow.env (ow.bnd (bnd_of hb hl))) fun S1 src ts p1 ⟨ds, r1, rs⟩ => by
    simp only [r1 S1 Keep.refl]
    exact for_sim hg hbd hb (Nat.le_trans hl p1.length_le) r1 ts ds 0 (ds.length + 1) S1 ε τ rfl (Nat.lt_succ_self _) rs (nx_here (ow.keep p1))
def FreshE (x : Den) (p : TDen) : Prop := ∀ Φ S ε τ, EnvR Φ none S ε τ → Bnd Φ S → ∀ t, p τ = .ok t → ∃ S' n ds ts, x ε S = .ok (.ref n) S' ∧ S <+: S' ∧ S.length ≤ n ∧ S'[n]? = some (.lst ds) ∧ t = .lst ts ∧ Rds (plus Φ n) S' ds ts
theorem fresh_of {ds : List D} {ts : List T} (p : S <+: S1) (r : Rds Φ S1 ds ts) : S <+: S1 ++ [.lst ds] ∧ S.length ≤ S1.length ∧ (S1 ++ [O.lst ds])[S1.length]? = some (.lst ds) ∧ Rds (plus Φ S1.length) (S1 ++ [.lst ds]) ds ts :=
  ⟨p.trans (List.prefix_append _ _), p.length_le, by simp, (r.keep (fun k hk q => q.elim id fun q => by omega) fun _ _ _ e => e).pre (List.prefix_append _ _)⟩
theorem fresh_lst {as : DenA} {qs : TDenA} (hs : SndA none as qs) : FreshE (dLst as) (tLst qs) := fun Φ S ε τ er hB t e => by
  have h := hs Φ S ε τ er hB
  unfold tLst at e
  cases e1 : qs τ with
  | ok ts =>
    rw [e1] at h e
    obtain ⟨S1, ds, e2, p, rs⟩ := h
    simp only [RT.bind_ok] at e
    split at e
    · rename_i hn
      cases e
      obtain ⟨a1, a2, a3, a4⟩ := fresh_of p rs
      exact ⟨_, _, ds, ts, by simp only [dLst, e2, R.bind_ok, mkLst, rs.len, if_pos hn], a1, a2, a3, rfl, a4⟩
    · cases e
  | exc c => rw [e1] at e; cases e
  | bad => rw [e1] at e; cases e
def tsOwn (p : TDen) (i : Nat) : TSDen := fun τ => tsE (p τ) τ fun t => if i < τ.length then .ok (.nx (τ.set i (some t))) else .bad
theorem ss_own (i : Nat) (hx : SndE none x p) (hf : FreshE x p) : SndS none (some i) (sAsg x (gN i)) (tsOwn p i) := fun B Φ n S ε τ ow hb hl => by
  have ow' : EnvR Φ none S ε τ := ow
  have h := hx Φ S ε τ ow' (bnd_of hb hl)
  unfold sAsg tsOwn
  cases e : p τ with
  | ok t =>
    obtain ⟨S', n', ds, ts, e1, p1, hn, e2, rfl, rs⟩ := hf Φ S ε τ ow' (bnd_of hb hl) t e
    rw [e1]
    show OkF B Φ none n S (some i) (.ok (.nx (ε.set i (some (.ref n')))) S') (if i < τ.length then .ok (.nx (τ.set i (some (.lst ts)))) else .bad)
    have er := ow'.pre p1
    have hn' : n' < S'.length := (List.getElem?_eq_some_iff.mp e2).1
    split
    · rename_i hi
      refine ⟨S', _, rfl, p1.length_le, Keep.pre p1, fun k o _ e => ?_, n', ⟨Nat.le_trans hl hn, hn', ⟨ds, ts, by rw [List.getElem?_set_self (by rw [er.len]; exact hi)], e2, rs, by rw [List.getElem?_set_self hi]⟩, ⟨by rw [List.length_set, List.length_set]; exact er.len, fun k u hk eu => ?_⟩⟩, .inr (.inl hn)⟩
      · obtain ⟨E, rfl⟩ := p1
        rw [List.getElem?_append_left (List.getElem?_eq_some_iff.mp e).1]
        exact e
      · have hk' : i ≠ k := fun z => hk (by rw [z])
        rw [List.getElem?_set_ne hk'] at eu ⊢
        obtain ⟨d, e3, e4⟩ := ow'.at_ k u (by simp) eu
        exact ⟨d, e3, (e4.keep (fun k hk q => q.elim id fun q => by omega) fun _ _ _ e => e).pre p1⟩
    · trivial
  | exc c =>
    rw [e] at h
    obtain ⟨S', e1, p1⟩ := h
    rw [e1]
    exact OkF.upp (q := .ok (.ex c τ)) p1 ⟨S', ε, rfl, nx_here (ow'.pre p1)⟩
  | bad => trivial
theorem own_put {i : Nat} {ds : List D} {ts : List T} (hB : B ≤ n) (hn : n < S.length) (e1 : ε[i]? = some (some (.ref n))) (e4 : ∃ t, τ[i]? = some (some t)) (er : EnvR (plus Φ n) (some i) S ε τ) (rs : Rds (plus Φ n) S ds ts) :
    NxR B Φ (some i) n S (some i) (S.set n (.lst ds)) ε (τ.set i (some (.lst ts))) := by
  have kp : Keep (plus Φ n) S (S.set n (.lst ds)) := fun k o hk e => by
    rw [List.getElem?_set_ne fun z => hk (.inr z.symm)]
    exact e
  obtain ⟨t, e4⟩ := e4
  have hi : i < τ.length := (List.getElem?_eq_some_iff.mp e4).1
  refine ⟨by rw [List.length_set]; exact Nat.le_refl _, kp, fun k o hk e => by rw [List.getElem?_set_ne (by omega)]; exact e, n, ⟨hB, by rw [List.length_set]; exact hn, ⟨ds, ts, e1, by rw [List.getElem?_set_self hn], rs.keep (fun _ _ q => q) kp, by rw [List.getElem?_set_self hi]⟩, ⟨by rw [List.length_set]; exact er.len, fun k u hk eu => ?_⟩⟩, .inl ⟨rfl, rfl⟩⟩
  have hk' : i ≠ k := fun z => hk (by rw [z])
  rw [List.getElem?_set_ne hk'] at eu
  obtain ⟨d, e3, e5⟩ := er.at_ k u hk eu
  exact ⟨d, e3, e5.keep (fun _ _ q => q) kp⟩
def tsApp (i : Nat) (p : TDen) : TSDen := fun τ => match τ[i]? with
  | some (some (.lst ts)) => tsE (p τ) τ fun t => if ts.length < big then .ok (.nx (τ.set i (some (.lst (ts ++ [t]))))) else .bad
  | _ => .bad
theorem sE_bind {α β : Type} {r : R α} {k : α → Sto → R β} {l : β → Sto → R Fl} : DL.sE (r.bind k) ε l = DL.sE r ε fun d S => DL.sE (k d S) ε l := by
  cases r <;> rfl
theorem ss_app {i : Nat} (hx : SndE (some i) x p) : SndS (some i) (some i) (sExpr (dAppend (dVar i) x)) (tsApp i p) := fun B Φ n S ε τ ow hb hl => by
  have ow0 := ow
  obtain ⟨h1, h2, ⟨ds, ts, a1, a2, a3, a4⟩, h4⟩ := ow
  have l1 : lstAt S (.ref n) = some (n, ds) := by simp only [lstAt, a2]
  simp only [sExpr, dAppend, x_Var a1, R.bind_ok, l1, tsApp, a4, sE_bind]
  refine OkF.sE ow0 hb (hx _ S ε τ h4 (ow0.bnd (bnd_of hb hl))) fun S1 d t p1 r1 => ?_
  obtain ⟨b1, b2, ⟨ds', ts', c1, c2, c3, c4⟩, c5⟩ := ow0.keep p1
  rw [a4] at c4
  cases c4
  have l2 : lstAt S1 (.ref n) = some (n, ds') := by simp only [lstAt, c2]
  simp only [l2, c3.len]
  split
  · exact ⟨_, ε, rfl, own_put h1 b2 a1 ⟨_, a4⟩ c5 (c3.app (.cons r1 .nil))⟩
  · trivial
def tsPut (i : Nat) (k v : TDen) : TSDen := fun τ => tsE (v τ) τ fun x => tsE (k τ) τ fun y => match τ[i]?, y with
  | some (some (.lst ts)), .int m => (match ixN ts.length m with
    | some l => .ok (.nx (τ.set i (some (.lst (ts.set l x)))))
    | none => .bad)
  | _, _ => .bad
theorem ss_put {i : Nat} (hk : SndE (some i) x p) (hv : SndE (some i) y p') : SndS (some i) (some i) (sPut (dVar i) x y) (tsPut i p p') := fun B Φ n S ε τ ow hb hl => by
  have ow0 := ow
  unfold sPut tsPut
  refine OkF.sE ow0 hb (hv _ S ε τ ow.env (ow0.bnd (bnd_of hb hl))) fun S1 d t p1 r1 => ?_
  have ow1 := ow0.keep p1
  have v1 : dVar i ε S1 = .ok (.ref n) S1 := x_Var ow.2.2.1.choose_spec.choose_spec.1
  simp only [v1, x_sE]
  refine OkF.sE ow1 hb (hk _ S1 ε τ ow1.env (ow1.bnd (bnd_of hb (Nat.le_trans hl p1.length_le)))) fun S2 e u p2 r2 => ?_
  obtain ⟨b1, b2, ⟨ds', ts', c1, c2, c3, c4⟩, c5⟩ := ow1.keep p2
  have l2 : lstAt S2 (.ref n) = some (n, ds') := by simp only [lstAt, c2]
  have l3 : dctAt S2 (.ref n) = none := by simp only [dctAt, c2]
  simp only [l2, l3, c4]
  cases r2 with
  | int m =>
    simp only [c3.len]
    cases ixN ts'.length m with
    | none => trivial
    | some l => exact ⟨_, ε, rfl, own_put b1 b2 c1 ⟨_, c4⟩ c5 (Rds.set (r1.pre p2) l c3)⟩
  | _ => trivial
def tsReown (i : Nat) (p : TDen) : TSDen := fun τ => match τ[i]? with
  | some (some (.lst ts)) => tsE (p τ) τ fun t => match t with
    | .lst us => if (ts ++ us).length ≤ big then .ok (.nx (τ.set i (some (.lst (ts ++ us))))) else .bad
    | _ => .bad
  | _ => .bad
theorem ss_reown {i : Nat} (hx : SndE (some i) x p) : SndS (some i) (some i) (sAsg (dBin oAdd (dVar i) x) (gN i)) (tsReown i p) := fun B Φ n S ε τ ow hb hl => by
  have ow0 := ow
  obtain ⟨h1, h2, ⟨ds, ts, a1, a2, a3, a4⟩, h4⟩ := ow
  simp only [sAsg, dBin, x_Var a1, R.bind_ok, tsReown, a4, sE_bind]
  refine OkF.sE ow0 hb (hx _ S ε τ h4 (ow0.bnd (bnd_of hb hl))) fun S1 d t p1 r1 => ?_
  obtain ⟨b1, b2, ⟨ds', ts', c1, c2, c3, c4⟩, c5⟩ := ow0.keep p1
  rw [a4] at c4
  cases c4
  cases r1 with
  | @lst m es us h e rs =>
    simp only [oAdd, c2, e, mkLst, (c3.app rs).len]
    split
    · simp only [x_sE, x_gN]
      refine ⟨_, _, rfl, ?_⟩
      have hi : i < τ.length := (List.getElem?_eq_some_iff.mp a4).1
      have hi' : i < ε.length := (List.getElem?_eq_some_iff.mp a1).1
      have pre : S1 <+: S1 ++ [O.lst (ds' ++ es)] := List.prefix_append _ _
      refine ⟨pre.length_le, Keep.pre pre, fun k o hk e => ?_, S1.length, ⟨by omega, by simp, ⟨ds' ++ es, ts ++ us, by rw [List.getElem?_set_self hi'], by simp, ?_, by rw [List.getElem?_set_self hi]⟩, ⟨by simp [c5.len], fun k u hk eu => ?_⟩⟩, .inr (.inl (Nat.le_refl _))⟩
      · rw [List.getElem?_append_left (List.getElem?_eq_some_iff.mp e).1]
        exact e
      · exact ((c3.app rs).keep (fun k hk q => by rcases q with q | rfl; exact .inl q; omega) fun _ _ _ e => e).pre pre
      · have hk' : i ≠ k := fun z => hk (by rw [z])
        rw [List.getElem?_set_ne hk'] at eu ⊢
        obtain ⟨d, e3, e5⟩ := c5.at_ k u hk eu
        exact ⟨d, e3, (e5.keep (fun k hk q => by rcases q with q | rfl; exact .inl q; omega) fun _ _ _ e => e).pre pre⟩
    · trivial
  | _ => trivial
def trun (np nN : Nat) (q : TSDen) : TFn := fun ts => if ts.length = np then (match q (ts.map some ++ List.replicate (nN - np) none) with
  | .ok (.nx _) => .ok .non
  | .ok (.rt t) => .ok t
  | .ok (.ex c _) => .exc c
  | _ => .bad) else .bad
theorem pre_ofT {α : Type} : ∀ {l m : List α}, l.length ≤ m.length → (∀ (k : Nat) (o : α), k < l.length → l[k]? = some o → m[k]? = some o) → l <+: m
  | [], m, _, _ => List.nil_prefix
  | a :: l, [], h, _ => by simp at h
  | a :: l, b :: m, h, k => by
    have e : b = a := by simpa using k 0 a (by simp) rfl
    rw [e]
    exact (List.prefix_cons_inj a).mpr (pre_ofT (by simpa using h) fun i o hi ho => by simpa using k (i + 1) o (by simpa using hi) (by simpa using ho))
theorem env_start : ∀ {ds : List D} {ts : List T}, Rds Φ S ds ts → ∀ m : Nat, EnvR Φ none S (ds.map some ++ List.replicate m none) (ts.map some ++ List.replicate m none) := fun {ds ts} r m => by
  refine ⟨by simp [r.len], fun i t _ e => ?_⟩
  by_cases h : i < ts.length
  · rw [List.getElem?_append_left (by simpa using h), List.getElem?_map] at e
    obtain ⟨u, e1, e2⟩ := Option.map_eq_some_iff.mp e
    cases e2
    obtain ⟨d, e3, e4⟩ := r.get e1
    exact ⟨d, by rw [List.getElem?_append_left (by simpa [r.len] using h), List.getElem?_map, e3]; rfl, e4⟩
  · rw [List.getElem?_append_right (by simpa using Nat.le_of_not_lt h), List.getElem?_replicate] at e
    split at e <;> cases e
theorem fn_T {np nN : Nat} (h : SndS none j' a q) : FnT (runFn np nN a) (trun np nN q) := fun Φ S ds ts r hB => by
  unfold runFn trun
  rw [r.len]
  split
  · have h1 := h S.length Φ 0 S _ _ (show OwnR S.length Φ none 0 S _ _ from env_start r (nN - np)) hB (Nat.le_refl _)
    cases e : q (ts.map some ++ List.replicate (nN - np) none) with
    | ok f =>
      rw [e] at h1
      cases f with
      | nx τ' => obtain ⟨S', ε', e1, nx⟩ := h1; rw [e1]; exact ⟨S', _, rfl, pre_ofT nx.ln fun k o hk e => nx.lo k o hk e, .non⟩
      | rt t => obtain ⟨S', d, e1, lo, r1, ln⟩ := h1; rw [e1]; exact ⟨S', d, rfl, pre_ofT ln fun k o hk e => lo k o hk e, r1⟩
      | ex c τ' => obtain ⟨S', ε', e1, nx⟩ := h1; rw [e1]; exact ⟨S', rfl, pre_ofT nx.ln fun k o hk e => nx.lo k o hk e⟩
    | exc c => trivial
    | bad => trivial
  · trivial
end
def FnAt (f : Fn) (ts : List T) (r : RT T) : Prop := ∀ Φ S ds, Rds Φ S ds ts → Bnd Φ S → OkR Rd Φ S (f ds S) r
open Classical in
noncomputable def tv (f : Fn) : TFn := fun ts => if h : ∃ t, FnAt f ts (.ok t) then .ok h.choose else if h : ∃ c, FnAt f ts (.exc c) then .exc h.choose else .bad
theorem tv_T (f : Fn) : FnT f (tv f) := fun Φ S ds ts r hB => by
  unfold tv
  split
  · rename_i h; exact h.choose_spec Φ S ds r hB
  · split
    · rename_i h; exact h.choose_spec Φ S ds r hB
    · trivial
mutual
theorem lay_T : ∀ (t : T) (S : Sto), ∃ S' d, S <+: S' ∧ Rd (fun _ => False) S' d t
  | .non, S => ⟨S, _, List.prefix_rfl, .non⟩
  | .bl b, S => ⟨S, _, List.prefix_rfl, .bl b⟩
  | .int i, S => ⟨S, _, List.prefix_rfl, .int i⟩
  | .str x, S => ⟨S, _, List.prefix_rfl, .str x⟩
  | .tup ts, S => let ⟨S', ds, p, r⟩ := lay_Ts ts S; ⟨S', _, p, .tup r⟩
  | .seq ts, S => let ⟨S', ds, p, r⟩ := lay_Ts ts S; ⟨S', _, p, .seq r⟩
  | .lst ts, S => let ⟨S', ds, p, r⟩ := lay_Ts ts S; ⟨S' ++ [.lst ds], .ref S'.length, p.trans (List.prefix_append _ _), .lst id (by simp) (r.pre (List.prefix_append _ _))⟩
  | .dct ts, S => let ⟨S', ds, p, r⟩ := lay_Tk ts S; ⟨S' ++ [.dct ds], .ref S'.length, p.trans (List.prefix_append _ _), .dct id (by simp) (r.pre (List.prefix_append _ _))⟩
theorem lay_Ts : ∀ (t : List T) (S : Sto), ∃ S' d, S <+: S' ∧ Rds (fun _ => False) S' d t
  | [], S => ⟨S, _, List.prefix_rfl, .nil⟩
  | t :: ts, S => let ⟨S1, d, p1, r1⟩ := lay_T t S; let ⟨S2, ds, p2, r2⟩ := lay_Ts ts S1; ⟨S2, _, p1.trans p2, .cons (r1.pre p2) r2⟩
theorem lay_Tk : ∀ (t : List (Key × T)) (S : Sto), ∃ S' d, S <+: S' ∧ Rdk (fun _ => False) S' d t
  | [], S => ⟨S, _, List.prefix_rfl, .nil⟩
  | (k, t) :: ts, S => let ⟨S1, d, p1, r1⟩ := lay_T t S; let ⟨S2, ds, p2, r2⟩ := lay_Tk ts S1; ⟨S2, _, p1.trans p2, .cons (r1.pre p2) r2⟩
end
theorem FnAt.one {f : Fn} {ts : List T} {r r' : RT T} (h : FnAt f ts r) (h' : FnAt f ts r') : r = .bad ∨ r' = .bad ∨ r = r' := by
  obtain ⟨S, ds, _, rs⟩ := lay_Ts ts []
  have a := h _ S ds rs (fun _ q => q.elim)
  have b := h' _ S ds rs (fun _ q => q.elim)
  cases r with
  | ok t =>
    obtain ⟨S1, d1, e1, _, r1⟩ := a
    cases r' with
    | ok u =>
      obtain ⟨S2, d2, e2, _, r2⟩ := b
      rw [e1] at e2
      cases e2
      rw [r1.one r2]
      exact .inr (.inr rfl)
    | exc c => obtain ⟨S2, e2, _⟩ := b; rw [e1] at e2; cases e2
    | bad => exact .inr (.inl rfl)
  | exc c =>
    obtain ⟨S1, e1, _⟩ := a
    cases r' with
    | ok u => obtain ⟨S2, d2, e2, _⟩ := b; rw [e1] at e2; cases e2
    | exc c => obtain ⟨S2, e2, _⟩ := b; rw [e1] at e2; cases e2; exact .inr (.inr rfl)
    | bad => exact .inr (.inl rfl)
  | bad => exact .inl rfl
theorem tv_at (f : Fn) (ts : List T) : FnAt f ts (tv f ts) := fun Φ S ds r hB => tv_T f Φ S ds ts r hB
theorem tv_eq {f : Fn} {ts : List T} {r : RT T} (h : FnAt f ts r) (hr : r ≠ .bad) : tv f ts = r := by
  rcases FnAt.one h (tv_at f ts) with e | e | e
  · exact absurd e hr
  · exfalso
    unfold tv at e
    cases r with
    | ok t => rw [dif_pos ⟨t, h⟩] at e; cases e
    | exc c =>
      split at e
      · cases e
      · rw [dif_pos ⟨c, h⟩] at e; cases e
    | bad => exact hr rfl
  · exact e.symm
theorem tv_ok {f : Fn} {ts : List T} {t : T} (h : FnAt f ts (.ok t)) : tv f ts = .ok t := tv_eq h (fun z => by cases z)
theorem FnT.at {f : Fn} {q : TFn} (h : FnT f q) (ts : List T) : FnAt f ts (q ts) := fun Φ S ds r hB => h Φ S ds ts r hB
theorem tv_of {f : Fn} {q : TFn} {ts : List T} {r : RT T} (h : FnT f q) (e : q ts = r) (hr : r ≠ .bad) : tv f ts = r := tv_eq (e ▸ h.at ts) hr
end DL

set_option Elab.async false
set_option linter.all false
set_option maxRecDepth 100000
set_option maxHeartbeats 1000000
namespace DL
open PySem L2
mutual
def unT : T → D
  | .non => .non | .bl b => .bl b | .int i => .int i | .str s => .str s
  | .tup ts => .tup (unTs ts)
  | .seq ts => .seq (unTs ts)
  | .lst _ => .non
  | .dct _ => .non
def unTs : List T → List D
  | [] => []
  | t :: ts => unT t :: unTs ts
end
mutual
def plT : T → Bool
  | .non => true | .bl _ => true | .int _ => true | .str _ => true
  | .tup ts => plTs ts
  | .seq ts => plTs ts
  | .lst _ => false
  | .dct _ => false
def plTs : List T → Bool
  | [] => true
  | t :: ts => plT t && plTs ts
end
section
variable {Φ : Nat → Prop} {S : Sto}
mutual
theorem rd_pl : ∀ {t : T}, plT t = true → Rd Φ S (unT t) t
  | .non, _ => .non
  | .bl b, _ => .bl b
  | .int i, _ => .int i
  | .str x, _ => .str x
  | .tup ts, h => .tup (rds_pl h)
  | .seq ts, h => .seq (rds_pl h)
  | .lst _, h => by cases h
  | .dct _, h => by cases h
theorem rds_pl : ∀ {t : List T}, plTs t = true → Rds Φ S (unTs t) t
  | [], _ => .nil
  | t :: ts, h => by
    unfold plTs at h
    rw [Bool.and_eq_true] at h
    exact .cons (rd_pl h.1) (rds_pl h.2)
end
mutual
theorem of_pl : ∀ {t : T} {d : D}, plT t = true → Rd Φ S d t → d = unT t
  | .non, _, _, .non => rfl
  | .bl b, _, _, .bl _ => rfl
  | .int i, _, _, .int _ => rfl
  | .str x, _, _, .str _ => rfl
  | .tup ts, _, h, .tup r => by rw [ofs_pl (show plTs ts = true from h) r]; rfl
  | .seq ts, _, h, .seq r => by rw [ofs_pl (show plTs ts = true from h) r]; rfl
theorem ofs_pl : ∀ {t : List T} {d : List D}, plTs t = true → Rds Φ S d t → d = unTs t
  | [], _, _, .nil => rfl
  | t :: ts, _, h, .cons r rs => by
    unfold plTs at h
    rw [Bool.and_eq_true] at h
    rw [of_pl h.1 r, ofs_pl h.2 rs]
    rfl
end
theorem unTs_map : ∀ ts : List T, unTs ts = ts.map unT
  | [] => rfl
  | t :: ts => by rw [unTs, unTs_map ts]; rfl
theorem plTs_iff : ∀ {ts : List T}, plTs ts = true ↔ ∀ t ∈ ts, plT t = true
  | [] => by simp [plTs]
  | t :: ts => by simp [plTs, plTs_iff (ts := ts)]
end
theorem tv_pur {f : Fn} {ts : List T} {t : T} (h : Pur (f (unTs ts)) (unT t)) (hs : plTs ts = true) (ht : plT t = true) : tv f ts = .ok t := tv_ok fun Φ S es r hB => by
  rw [ofs_pl hs r]
  obtain ⟨E, e⟩ := h S
  exact ⟨_, _, e, List.prefix_append _ _, rd_pl ht⟩
def tscr (ns : List Int) : T := .seq (ns.map .int)
def tstrs (xs : List Str) : T := .tup (xs.map .str)
def lints (xs : List Int) : T := .lst (xs.map .int)
mutual
def encT : Deed → T
  | .num i => .tup [.str "number", .int i]
  | .nam x => .tup [.str "name", .str x]
  | .dod x => .tup [.str "do", .str x]
  | .ask => .tup [.str "ask"]
  | .rd x => .tup [.str "read", .str x]
  | .wr x a => .tup [.str "write", .str x, encT a]
  | .say a => .tup [.str "say", encT a]
  | .lt x a b => .tup [.str "let", .str x, encT a, encT b]
  | .own x a b => .tup [.str "own", .str x, encT a, encT b]
  | .iff a b c => .tup [.str "if", encT a, encT b, encT c]
  | .two w a b => .tup [.str w.w, encT a, encT b]
  | .call i ps hs => .tup [.str "call", .int i, .tup (encTs ps), .tup (encTs hs)]
def encTs : List Deed → List T
  | [] => []
  | d :: ds => encT d :: encTs ds
end
theorem unT_scr (xs : List Int) : unT (tscr xs) = scr xs ∧ plT (tscr xs) = true := by
  unfold tscr scr
  refine ⟨?_, ?_⟩
  · rw [unT, unTs_map, List.map_map]; rfl
  · rw [plT, plTs_iff]; intro t ht; obtain ⟨x, _, rfl⟩ := List.mem_map.mp ht; rfl
theorem rd_ints {Φ : Nat → Prop} {S : Sto} (xs : List Int) : Rds Φ S (xs.map .int) (xs.map .int) := Rds.maps fun _ _ => .int _
theorem drawn_T (n : Nat) (ns : List Int) (k m : Int) (hk : 0 ≤ k) (hm : 0 < m) (hl : ns.length ≤ 63) (hn : 3 ≤ n := by omega) : tv (csem n .f__law_drawn) [tscr ns, .int k, .int m] = .ok (.int (drw ns k m)) := by
  obtain ⟨n, rfl⟩ : ∃ j, n = j + 3 := ⟨n - 3, by omega⟩
  refine tv_pur ?_ (by simp [plTs, (unT_scr ns).2, plT]) rfl
  simp only [unTs, (unT_scr ns).1, unT]
  exact drawn_sem n ns k m hk hm hl
end DL

set_option Elab.async false
set_option linter.all false
set_option maxRecDepth 100000
set_option maxHeartbeats 1000000
namespace DL
open PySem L2
abbrev Om := List (Str × T)
inductive Rdf (Φ : Nat → Prop) (S : Sto) : List (Str × D) → Om → Prop
  | nil : Rdf Φ S [] []
  | cons {k : Str} {d : D} {ds : List (Str × D)} {t : T} {ts : Om} : Rd Φ S d t → Rdf Φ S ds ts → Rdf Φ S ((k, d) :: ds) ((k, t) :: ts)
theorem Rdf.keep {Φ Ψ : Nat → Prop} {S S' : Sto} (hΦ : ∀ n, n < S.length → Ψ n → Φ n) (hS : ∀ (n : Nat) (o : O), ¬ Φ n → S[n]? = some o → S'[n]? = some o) : ∀ {ds : List (Str × D)} {ts : Om}, Rdf Φ S ds ts → Rdf Ψ S' ds ts
  | _, _, .nil => .nil
  | _, _, .cons h t => .cons (h.keep hΦ hS) (Rdf.keep hΦ hS t)
theorem Rdf.len {Φ : Nat → Prop} {S : Sto} : ∀ {ds : List (Str × D)} {ts : Om}, Rdf Φ S ds ts → ds.length = ts.length
  | _, _, .nil => rfl
  | _, _, .cons _ t => congrArg (· + 1) (Rdf.len t)
def putFT (f : Str) (v : T) : Om → Om
  | [] => [(f, v)]
  | (g, x) :: r => if g = f then (g, v) :: r else (g, x) :: putFT f v r
theorem Rdf.put {Φ : Nat → Prop} {S : Sto} (f : Str) {d : D} {t : T} (r : Rd Φ S d t) : ∀ {ds : List (Str × D)} {ts : Om}, Rdf Φ S ds ts → Rdf Φ S (putFD f d ds) (putFT f t ts)
  | _, _, .nil => .cons r .nil
  | _, _, .cons (k := k) h q => by
    unfold putFD putFT
    split
    · exact .cons r q
    · exact .cons h (Rdf.put f r q)
def ObR (Φ : Nat → Prop) (m : Nat) (c : Str) (S : Sto) (ω : Om) : Prop := ∃ fs, S[m]? = some (.ins c fs) ∧ Rdf (plus Φ m) S fs ω
def Kp (m : Nat) (S S' : Sto) : Prop := S.length ≤ S'.length ∧ ∀ (n : Nat) (o : O), n ≠ m → S[n]? = some o → S'[n]? = some o
theorem Kp.refl {m : Nat} {S : Sto} : Kp m S S := ⟨Nat.le_refl _, fun _ _ _ e => e⟩
theorem Kp.trans {m : Nat} {S S1 S2 : Sto} (a : Kp m S S1) (b : Kp m S1 S2) : Kp m S S2 := ⟨Nat.le_trans a.1 b.1, fun n o h e => b.2 n o h (a.2 n o h e)⟩
theorem Kp.pre {m : Nat} {S S' : Sto} (p : S <+: S') : Kp m S S' := ⟨p.length_le, fun n o _ e => by
  obtain ⟨E, rfl⟩ := p
  rw [List.getElem?_append_left (List.getElem?_eq_some_iff.mp e).1]
  exact e⟩
section
variable {Φ : Nat → Prop} {m : Nat} {S S' : Sto}
theorem Rd.kp (p : Kp m S S') {d : D} {t : T} (h : Rd (plus Φ m) S d t) : Rd (plus Φ m) S' d t := h.keep (fun _ _ q => q) fun n o hn e => p.2 n o (fun z => hn (.inr z)) e
theorem Rds.kp (p : Kp m S S') {d : List D} {t : List T} (h : Rds (plus Φ m) S d t) : Rds (plus Φ m) S' d t := h.keep (fun _ _ q => q) fun n o hn e => p.2 n o (fun z => hn (.inr z)) e
theorem EnvR.kp (p : Kp m S S') {j : Option Nat} {ε : Env} {τ : TEnv} (h : EnvR (plus Φ m) j S ε τ) : EnvR (plus Φ m) j S' ε τ := h.keep (fun _ _ q => q) fun n o hn e => p.2 n o (fun z => hn (.inr z)) e
theorem ObR.pre {c : Str} {ω : Om} (p : S <+: S') (h : ObR Φ m c S ω) : ObR Φ m c S' ω := by
  obtain ⟨fs, e, r⟩ := h
  obtain ⟨E, rfl⟩ := p
  exact ⟨fs, by rw [List.getElem?_append_left (List.getElem?_eq_some_iff.mp e).1]; exact e, r.keep (fun _ _ q => q) fun n o _ e => by rw [List.getElem?_append_left (List.getElem?_eq_some_iff.mp e).1]; exact e⟩
theorem Bnd.kp (h : Bnd (plus Φ m) S) (p : Kp m S S') : Bnd (plus Φ m) S' := fun n q => Nat.lt_of_lt_of_le (h n q) p.1
end
def OkR2 {β α : Type} (Rl : RlT β α) (Φ : Nat → Prop) (m : Nat) (c : Str) (S : Sto) (r : R β) : RT (α × Om) → Prop
  | .ok (t, ω) => ∃ S' d, r = .ok d S' ∧ Kp m S S' ∧ ObR Φ m c S' ω ∧ Rl (plus Φ m) S' d t
  | .exc x => ∃ S', r = .exc x S' ∧ Kp m S S'
  | .bad => True
theorem OkR2.bind {β α β' α' : Type} {Rl : RlT β α} {Rl' : RlT β' α'} {Φ : Nat → Prop} {m : Nat} {c : Str} {S : Sto} {r : R β} {q : RT (α × Om)} {k : β → Sto → R β'} {κ : α × Om → RT (α' × Om)} (h : OkR2 Rl Φ m c S r q)
    (hk : ∀ S' d t ω, Kp m S S' → ObR Φ m c S' ω → Rl (plus Φ m) S' d t → OkR2 Rl' Φ m c S' (k d S') (κ (t, ω))) : OkR2 Rl' Φ m c S (r.bind k) (q.bind κ) := by
  cases q with
  | ok t =>
    obtain ⟨t, ω⟩ := t
    obtain ⟨S', d, rfl, p, ob, rl⟩ := h
    have := hk S' d t ω p ob rl
    simp only [R.bind_ok, RT.bind_ok]
    cases e : κ (t, ω) with
    | ok u => obtain ⟨u, ω'⟩ := u; rw [e] at this; obtain ⟨S2, d2, e2, p2, ob2, r2⟩ := this; exact ⟨S2, d2, e2, p.trans p2, ob2, r2⟩
    | exc c => rw [e] at this; obtain ⟨S2, e2, p2⟩ := this; exact ⟨S2, e2, p.trans p2⟩
    | bad => trivial
  | exc c => obtain ⟨S', rfl, p⟩ := h; exact ⟨S', rfl, p⟩
  | bad => trivial
theorem OkR2.here {β α : Type} {Rl : RlT β α} {Φ : Nat → Prop} {m : Nat} {c : Str} {S : Sto} {d : β} {t : α} {ω : Om} (ob : ObR Φ m c S ω) (h : Rl (plus Φ m) S d t) : OkR2 Rl Φ m c S (.ok d S) (.ok (t, ω)) := ⟨S, d, rfl, Kp.refl, ob, h⟩
theorem OkR2.of {β α : Type} {Rl : RlT β α} {Φ : Nat → Prop} {m : Nat} {c : Str} {S : Sto} {r : R β} {q : RT α} {ω : Om} (ob : ObR Φ m c S ω) (h : OkR Rl (plus Φ m) S r q) : OkR2 Rl Φ m c S r (q.bind fun t => .ok (t, ω)) := by
  cases q with
  | ok t => obtain ⟨S', d, rfl, p, rl⟩ := h; exact ⟨S', d, rfl, Kp.pre p, ob.pre p, rl⟩
  | exc x => obtain ⟨S', rfl, p⟩ := h; exact ⟨S', rfl, Kp.pre p⟩
  | bad => trivial
structure At (Φ : Nat → Prop) (m k : Nat) (c : Str) (S : Sto) (ε : Env) (τ : TEnv) (ω : Om) : Prop where
  e : EnvR (plus Φ m) (some k) S ε τ
  o : ε[k]? = some (some (.ref m))
  b : Bnd (plus Φ m) S
  f : ¬ Φ m
  r : ObR Φ m c S ω
theorem At.kp {Φ : Nat → Prop} {m k : Nat} {c : Str} {S S' : Sto} {ε : Env} {τ : TEnv} {ω ω' : Om} (h : At Φ m k c S ε τ ω) (p : Kp m S S') (ob : ObR Φ m c S' ω') : At Φ m k c S' ε τ ω' := ⟨h.e.kp p, h.o, h.b.kp p, h.f, ob⟩
abbrev ODen := TEnv → Om → RT (T × Om)
abbrev ODenB := TEnv → Om → RT (Bool × Om)
abbrev ODenA := TEnv → Om → RT (List T × Om)
def up {α : Type} (q : TEnv → RT α) : TEnv → Om → RT (α × Om) := fun τ ω => (q τ).bind fun t => .ok (t, ω)
section
variable {k : Nat} {c : Str}
variable {a b d : Den} {p q r : ODen} {as : DenA} {qs : ODenA} {ba bb : DenB} {γ δ : ODenB}
abbrev OFn := List T → Om → RT (T × Om)
theorem OkR2.noX {β α : Type} {Rl : RlT β α} {Φ : Nat → Prop} {m : Nat} {c : Str} {S : Sto} {r : R β} {q : RT (α × Om)} (h : OkR2 Rl Φ m c S r q) : OkR2 Rl Φ m c S (DL.noX r) (noXT q) := by
  cases q with
  | ok t => obtain ⟨S', d, rfl, p, rl⟩ := h; exact ⟨S', d, rfl, p, rl⟩
  | exc c => trivial
  | bad => trivial
end
end DL

set_option Elab.async false
set_option linter.all false
set_option maxRecDepth 100000
set_option maxHeartbeats 1000000
namespace DL
open PySem L2
abbrev OSDen := TEnv → Om → RT (TFl × Om)
def OkF2 (Φ : Nat → Prop) (m k : Nat) (c : Str) (S : Sto) (r : R Fl) : RT (TFl × Om) → Prop
  | .ok (.nx τ', ω) => ∃ S' ε', r = .ok (.nx ε') S' ∧ Kp m S S' ∧ At Φ m k c S' ε' τ' ω
  | .ok (.rt t, ω) => ∃ S' d, r = .ok (.rt d) S' ∧ Kp m S S' ∧ ObR Φ m c S' ω ∧ Rd (plus Φ m) S' d t
  | .ok (.ex x _, _) => ∃ S' ε', r = .ok (.ex x ε') S' ∧ Kp m S S'
  | .exc _ => True
  | .bad => True
theorem OkF2.up {Φ : Nat → Prop} {m k : Nat} {c : Str} {S S1 : Sto} {r : R Fl} {q : RT (TFl × Om)} (p : Kp m S S1) (h : OkF2 Φ m k c S1 r q) : OkF2 Φ m k c S r q := by
  cases q with
  | ok f =>
    obtain ⟨f, ω⟩ := f
    cases f with
    | nx τ => obtain ⟨S', ε', e, p', a⟩ := h; exact ⟨S', ε', e, p.trans p', a⟩
    | rt t => obtain ⟨S', ε', e, p', a⟩ := h; exact ⟨S', ε', e, p.trans p', a⟩
    | ex x τ => obtain ⟨S', ε', e, p'⟩ := h; exact ⟨S', ε', e, p.trans p'⟩
  | exc => trivial
  | bad => trivial
def osE {α : Type} (q : RT (α × Om)) (τ : TEnv) (ω : Om) (κ : α → Om → RT (TFl × Om)) : RT (TFl × Om) := match q with
  | .ok (t, ω') => κ t ω'
  | .exc x => .ok (.ex x τ, ω)
  | .bad => .bad
section
variable {k m : Nat} {c : Str} {Φ : Nat → Prop} {S : Sto} {ε : Env} {τ : TEnv} {ω : Om}
theorem OkF2.sE {β α : Type} {Rl : RlT β α} {r : R β} {q : RT (α × Om)} {kk : β → Sto → R Fl} {κ : α → Om → RT (TFl × Om)} (A : At Φ m k c S ε τ ω) (h : OkR2 Rl Φ m c S r q)
    (hk : ∀ S' d t ω', Kp m S S' → At Φ m k c S' ε τ ω' → Rl (plus Φ m) S' d t → OkF2 Φ m k c S' (kk d S') (κ t ω')) : OkF2 Φ m k c S (DL.sE r ε kk) (osE q τ ω κ) := by
  cases q with
  | ok t =>
    obtain ⟨t, ω'⟩ := t
    obtain ⟨S', d, rfl, p, ob, rl⟩ := h
    exact (hk S' d t ω' p (A.kp p ob) rl).up p
  | exc x =>
    obtain ⟨S', rfl, p⟩ := h
    exact ⟨S', ε, rfl, p⟩
  | bad => trivial
variable {a b : SDen} {q q' : OSDen} {x y : Den} {p p' : ODen} {ba : DenB} {γ : ODenB}
theorem ObR.set {Φ : Nat → Prop} {m : Nat} {c : Str} {S : Sto} {ω : Om} (h : ObR Φ m c S ω) {fs : List (Str × D)} (e : S[m]? = some (.ins c fs)) {fs' : List (Str × D)} {ω' : Om} (r : Rdf (plus Φ m) S fs' ω') : ObR Φ m c (S.set m (.ins c fs')) ω' ∧ Kp m S (S.set m (.ins c fs')) := by
  have hm : m < S.length := (List.getElem?_eq_some_iff.mp e).1
  have kp : Kp m S (S.set m (.ins c fs')) := ⟨by rw [List.length_set]; exact Nat.le_refl _, fun n o hn e => by rw [List.getElem?_set_ne (Ne.symm hn)]; exact e⟩
  exact ⟨⟨fs', by rw [List.getElem?_set_self hm], r.keep (fun _ _ q => q) fun n o hn e => kp.2 n o (fun z => hn (.inr z)) e⟩, kp⟩
end
def FnAt2 (pl : Nat) (c : Str) (f : Fn) (ts : List T) (ω : Om) (r : RT (T × Om)) : Prop := ∀ Φ m S ds, Rds (plus Φ m) S ds ts → Bnd (plus Φ m) S → ¬ Φ m → ObR Φ m c S ω → OkR2 Rd Φ m c S (f (ds.take pl ++ .ref m :: ds.drop pl) S) r
open Classical in
noncomputable def tv2 (pl : Nat) (c : Str) (f : Fn) : OFn := fun ts ω => if h : ∃ t, FnAt2 pl c f ts ω (.ok t) then .ok h.choose else if h : ∃ x, FnAt2 pl c f ts ω (.exc x) then .exc h.choose else .bad
theorem Rdf.one {Φ : Nat → Prop} {S : Sto} : ∀ {ds : List (Str × D)} {t u : Om}, Rdf Φ S ds t → Rdf Φ S ds u → t = u
  | _, _, _, .nil, .nil => rfl
  | _, _, _, .cons h t, .cons h' t' => by rw [Rd.one h h', Rdf.one t t']
theorem ObR.one {Φ : Nat → Prop} {m : Nat} {c : Str} {S : Sto} {ω ω' : Om} (h : ObR Φ m c S ω) (h' : ObR Φ m c S ω') : ω = ω' := by
  obtain ⟨fs, e, r⟩ := h
  obtain ⟨fs', e', r'⟩ := h'
  rw [e] at e'
  cases e'
  exact r.one r'
theorem lay_Tf : ∀ (t : Om) (S : Sto), ∃ S' d, S <+: S' ∧ Rdf (fun _ => False) S' d t
  | [], S => ⟨S, _, List.prefix_rfl, .nil⟩
  | (k, t) :: ts, S => let ⟨S1, d, p1, r1⟩ := lay_T t S; let ⟨S2, ds, p2, r2⟩ := lay_Tf ts S1; ⟨S2, _, p1.trans p2, .cons (r1.pre p2) r2⟩
theorem FnAt2.one {pl : Nat} {c : Str} {f : Fn} {ts : List T} {ω : Om} {r r' : RT (T × Om)} (h : FnAt2 pl c f ts ω r) (h' : FnAt2 pl c f ts ω r') : r = .bad ∨ r' = .bad ∨ r = r' := by
  obtain ⟨S1, ds, _, rs⟩ := lay_Ts ts []
  obtain ⟨S2, fs, p2, rf⟩ := lay_Tf ω S1
  have pre : S2 <+: S2 ++ [O.ins c fs] := List.prefix_append _ _
  have kk : ∀ n, n < S2.length → plus (fun _ => False) S2.length n → False := fun n hn q => by
    rcases q with q | q
    · exact q
    · omega
  have rs' : Rds (plus (fun _ => False) S2.length) (S2 ++ [.ins c fs]) ds ts := ((rs.pre p2).keep kk fun _ _ _ e => e).pre pre
  have ob : ObR (fun _ => False) S2.length c (S2 ++ [.ins c fs]) ω := ⟨fs, by simp, (rf.keep kk fun _ _ _ e => e).keep (fun _ _ q => q) fun n o _ e => by
    rw [List.getElem?_append_left (List.getElem?_eq_some_iff.mp e).1]; exact e⟩
  have bn : Bnd (plus (fun _ => False) S2.length) (S2 ++ [.ins c fs]) := fun n q => by
    rcases q with q | rfl
    · exact q.elim
    · simp
  have a := h _ S2.length _ ds rs' bn id ob
  have b := h' _ S2.length _ ds rs' bn id ob
  cases r with
  | ok t =>
    obtain ⟨t, ω1⟩ := t
    obtain ⟨S1, d1, e1, _, o1, r1⟩ := a
    cases r' with
    | ok u =>
      obtain ⟨u, ω2⟩ := u
      obtain ⟨S2, d2, e2, _, o2, r2⟩ := b
      rw [e1] at e2
      cases e2
      rw [r1.one r2, o1.one o2]
      exact .inr (.inr rfl)
    | exc x => obtain ⟨S2, e2, _⟩ := b; rw [e1] at e2; cases e2
    | bad => exact .inr (.inl rfl)
  | exc x =>
    obtain ⟨S1, e1, _⟩ := a
    cases r' with
    | ok u => obtain ⟨u, ω2⟩ := u; obtain ⟨S2, d2, e2, _⟩ := b; rw [e1] at e2; cases e2
    | exc x => obtain ⟨S2, e2, _⟩ := b; rw [e1] at e2; cases e2; exact .inr (.inr rfl)
    | bad => exact .inr (.inl rfl)
  | bad => exact .inl rfl
end DL

set_option Elab.async false
set_option linter.all false
set_option maxRecDepth 100000
set_option maxHeartbeats 1000000
namespace DL
open PySem
open KS (rise tLt sLt iLt)
section
variable {K : Type} [DecidableEq K]
def strX : T → Option Str
  | .str x => some x
  | _ => none
def intX : T → Option Int
  | .int x => some x
  | _ => none
def keyXT : T → Option (List Str)
  | .tup ts => (match fall strX ts with
    | some [] => none
    | r => r)
  | _ => none
def unX (k : List Str) : T := .tup (k.map T.str)
def sSSk (key : T → Option K) (lt : K → K → Bool) (kd : K → T) (t : T) : RT T := match litsT t with
  | some ts => (match fall key ts with
    | some ks => if (rise lt ks).length < 64 then .ok (.lst ((rise lt ks).map kd)) else .bad
    | none => .bad)
  | none => .bad
def qSS (t : T) : RT T := match sSSk keyXT tLt unX t with
  | .ok u => .ok u
  | _ => (match sSSk strX sLt T.str t with
    | .ok u => .ok u
    | _ => sSSk intX iLt T.int t)
def tSS (p : TDen) : TDen := fun τ => (p τ).bind qSS
theorem fall_R {Φ : Nat → Prop} {S : Sto} {key : D → Option K} {key' : T → Option K} (h : ∀ {d t}, Rd Φ S d t → key d = key' t) : ∀ {ds : List D} {ts : List T}, Rds Φ S ds ts → fall key ds = fall key' ts
  | _, _, .nil => rfl
  | _, _, .cons r rs => by simp only [fall, h r, fall_R h rs]
theorem strX_R {Φ : Nat → Prop} {S : Sto} {d : D} {t : T} (r : Rd Φ S d t) : strD d = strX t := by cases r <;> rfl
theorem intX_R {Φ : Nat → Prop} {S : Sto} {d : D} {t : T} (r : Rd Φ S d t) : intD d = intX t := by cases r <;> rfl
theorem keyX_R {Φ : Nat → Prop} {S : Sto} {d : D} {t : T} (r : Rd Φ S d t) : keyX d = keyXT t := by
  cases r <;> first | rfl | (rename_i rs; have z := fall_R (key := strD) (key' := strX) (fun r => strX_R r) rs; simp only [keyX, keyXT, z] <;> (rename_i ts; generalize fall strX ts = o; cases o with | none => rfl | some l => cases l <;> rfl))
theorem ssk_R {Φ : Nat → Prop} {S : Sto} {key : D → Option K} {key' : T → Option K} {kd : K → D} {kd' : K → T} {lt : K → K → Bool} (h : ∀ {d t}, Rd Φ S d t → key d = key' t) (hk : ∀ k, Rd Φ S (kd k) (kd' k)) (hB : Bnd Φ S)
    {d : D} {t : T} (r : Rd Φ S d t) {a : Den} {ε : Env} {S0 : Sto} (ea : a ε S0 = .ok d S) :
    (dSSk key lt kd a ε S0 = .bad ∧ ∀ u, sSSk key' lt kd' t ≠ .ok u) ∨ ∃ u, sSSk key' lt kd' t = .ok u ∧ OkR Rd Φ S (dSSk key lt kd a ε S0) (.ok u) ∧ ∃ d' S', dSSk key lt kd a ε S0 = .ok d' S' := by
  unfold dSSk sSSk
  rw [ea, R.bind_ok]
  rcases lits_T r with ⟨e1, e2⟩ | ⟨ds, ts, e1, e2, rs⟩
  · rw [e1, e2]; exact .inl ⟨rfl, fun u z => nomatch z⟩
  · simp only [e1, e2, fall_R h rs]
    cases fall key' ts with
    | none => exact .inl ⟨by first | rfl | trivial, fun u z => nomatch z⟩
    | some ks =>
      simp only
      by_cases c : (rise lt ks).length < 64
      · simp only [if_pos c]
        exact .inr ⟨_, rfl, .newL hB (Rds.maps fun k _ => hk k), _, _, rfl⟩
      · simp only [if_neg c]
        exact .inl ⟨by first | rfl | trivial, fun u z => nomatch z⟩
end
section
variable {j : Option Nat} {a b : Den} {p q : TDen}
theorem unX_R {Φ : Nat → Prop} {S : Sto} (k : List Str) : Rd Φ S (unK k) (unX k) := .tup (Rds.maps fun x _ => .str x)
theorem snd_ss (ha : SndE j a p) : SndE j (dSS a) (tSS p) := fun Φ S ε τ er hB => by
  have h := ha Φ S ε τ er hB
  unfold tSS
  cases hp : p τ with
  | bad => trivial
  | exc c =>
    rw [hp] at h
    obtain ⟨S1, e, pr⟩ := h
    refine ⟨S1, ?_, pr⟩
    unfold dSS dSSk
    rw [e]; rfl
  | ok t =>
    rw [hp] at h
    obtain ⟨S1, d, e, pr, r⟩ := h
    rw [RT.bind_ok]
    have hB1 := hB.pre pr
    refine OkR.up pr ?_
    rcases ssk_R (key := keyX) (key' := keyXT) (kd := unK) (kd' := unX) (lt := tLt) (fun r => keyX_R r) (fun k => unX_R k) hB1 r e with ⟨e1, n1⟩ | ⟨u, e1, o1, d', S', e2⟩
    · rcases ssk_R (key := strD) (key' := strX) (kd := D.str) (kd' := T.str) (lt := sLt) (fun r => strX_R r) (fun k => .str k) hB1 r e with ⟨e3, n3⟩ | ⟨u, e3, o3, d', S', e4⟩
      · have q1 : qSS t = sSSk intX iLt T.int t := by
          unfold qSS
          split
          · exact absurd ‹_› (n1 _)
          · split
            · exact absurd ‹_› (n3 _)
            · rfl
        have q2 : dSS a ε S = dSSk intD iLt D.int a ε S := by unfold dSS; rw [e1, e3]
        rw [q1, q2]
        rcases ssk_R (key := intD) (key' := intX) (kd := D.int) (kd' := T.int) (lt := iLt) (fun r => intX_R r) (fun k => .int k) hB1 r e with ⟨e5, n5⟩ | ⟨u, e5, o5, d', S', e6⟩
        · cases z : sSSk intX iLt T.int t with
          | ok u => exact absurd z (n5 u)
          | bad => trivial
          | exc c =>
            exfalso
            unfold sSSk at z
            split at z
            · split at z
              · split at z <;> cases z
              · cases z
            · cases z
        · rw [e5]; exact o5
      · have q1 : qSS t = .ok u := by
          unfold qSS
          rw [e3]
          split
          · exact absurd ‹_› (n1 _)
          · rfl
        have q2 : dSS a ε S = dSSk strD sLt D.str a ε S := by unfold dSS; rw [e1, e4]
        rw [q1, q2]; exact o3
    · have q1 : qSS t = .ok u := by unfold qSS; rw [e1]
      have q2 : dSS a ε S = dSSk keyX tLt unK a ε S := by unfold dSS; rw [e2]
      rw [q1, q2]; exact o1
def tiEnumA (p : TDen) : TIt := fun τ => (p τ).bind fun d => match d with
  | .tup ts => .ok (numT 0 ts)
  | d => match litsT d with
    | some ts => .ok (numT 0 ts)
    | none => .bad
theorem si_enumA (ha : SndE j a p) : SndI j (iEnumA a) (tiEnumA p) := fun Φ S ε τ er hB => (ha Φ S ε τ er hB).bind fun S1 d t p1 r1 => by
  cases r1 with
  | tup rs => exact .here ⟨_, fun _ _ => rfl, num_R 0 rs⟩
  | seq rs => exact .here ⟨_, fun _ _ => rfl, num_R 0 rs⟩
  | lst n e rs =>
    simp only [litems, e, litsT]
    refine .here ⟨_, fun S' k => ?_, num_R 0 rs⟩
    have z := litems_keep (Rd.lst n e rs) k
    simp only [litems, e] at z
    simp only [z]
    rfl
  | dct n e rs => simp only [litsT]; trivial
  | _ => trivial
def textsT : T → Option (List Str)
  | .tup ts => fall strX ts
  | _ => none
theorem textsT_R {Φ : Nat → Prop} {S : Sto} {d : D} {t : T} (r : Rd Φ S d t) : textsOf d = textsT t := by
  cases r <;> first | rfl | (rename_i rs; have z := fall_R (key := strD) (key' := strX) (fun r => strX_R r) rs; simp only [textsOf, textsT, z])
end
end DL

set_option Elab.async false
set_option linter.all false
set_option maxRecDepth 100000
set_option maxHeartbeats 1000000
namespace DL
open PySem L2
open KS (tLt sLt iLt sortK)
section
variable {K : Type} [DecidableEq K]
def qSo (key : T → Option K) (lt : K → K → Bool) (kd : K → T) : TFn := fun ts => match ts with
  | [t] => (match litsT t with
    | some xs => (match fall key xs with
      | some ks => if ks.length < 64 then .ok (.lst ((sortK lt ks).map kd)) else .bad
      | none => .bad)
    | none => .bad)
  | _ => .bad
def intKeysT : List (Key × T) → Option (List Int)
  | [] => some []
  | (.inl i, _) :: r => (intKeysT r).map (i :: ·)
  | _ => none
def qSoD : TFn := fun ts => match ts with
  | [t] => (match dctT t with
    | some kvs => (match intKeysT kvs with
      | some ks => if ks.length < 64 then .ok (.lst ((sortK iLt ks).map T.int)) else .bad
      | none => .bad)
    | none => .bad)
  | _ => .bad
def orT (x y : RT T) : RT T := match x with
  | .ok u => .ok u
  | _ => y
theorem orT_no {x : RT T} (n : ∀ u, x ≠ .ok u) (y : RT T) : orT x y = y := by
  cases x with
  | ok u => exact absurd rfl (n u)
  | _ => rfl
def qSorted : TFn := fun ts => orT (qSo keyXT tLt unX ts) (orT (qSo strX sLt T.str ts) (orT (qSo intX iLt T.int ts) (qSoD ts)))
theorem so_R {Φ : Nat → Prop} {S : Sto} {key : D → Option K} {key' : T → Option K} {kd : K → D} {kd' : K → T} {lt : K → K → Bool} (h : ∀ {d t}, Rd Φ S d t → key d = key' t) (hk : ∀ k, Rd Φ S (kd k) (kd' k)) (hB : Bnd Φ S) {ds : List D} {ts : List T} (r : Rds Φ S ds ts) :
    (fSo key lt kd ds S = .bad ∧ ∀ u, qSo key' lt kd' ts ≠ .ok u) ∨ ∃ u, qSo key' lt kd' ts = .ok u ∧ OkR Rd Φ S (fSo key lt kd ds S) (.ok u) ∧ ∃ d' S', fSo key lt kd ds S = .ok d' S' := by
  unfold fSo qSo
  cases r with
  | nil => exact .inl ⟨rfl, fun u z => nomatch z⟩
  | cons r rs =>
    cases rs with
    | cons _ _ => exact .inl ⟨rfl, fun u z => nomatch z⟩
    | nil =>
      dsimp only
      rcases lits_T r with ⟨e1, e2⟩ | ⟨ds, ts, e1, e2, rs⟩
      · rw [e1, e2]; exact .inl ⟨rfl, fun u z => nomatch z⟩
      · simp only [e1, e2, fall_R h rs]
        cases fall key' ts with
        | none => exact .inl ⟨by first | rfl | trivial, fun u z => nomatch z⟩
        | some ks =>
          simp only
          by_cases c : ks.length < 64
          · simp only [if_pos c]
            exact .inr ⟨_, rfl, .newL hB (Rds.maps fun k _ => hk k), _, _, rfl⟩
          · simp only [if_neg c]
            exact .inl ⟨by first | rfl | trivial, fun u z => nomatch z⟩
end
theorem intKeys_R {Φ : Nat → Prop} {S : Sto} : ∀ {ds : List (Key × D)} {ts : List (Key × T)}, Rdk Φ S ds ts → intKeys ds = intKeysT ts
  | _, _, .nil => rfl
  | (.inl i, _) :: _, _, .cons h t => by unfold intKeys intKeysT; rw [intKeys_R t]
  | (.inr x, _) :: _, _, .cons h t => rfl
theorem soD_R {Φ : Nat → Prop} {S : Sto} (hB : Bnd Φ S) {ds : List D} {ts : List T} (r : Rds Φ S ds ts) : OkR Rd Φ S (fSoD ds S) (qSoD ts) := by
  unfold fSoD qSoD
  cases r with
  | nil => trivial
  | cons r rs =>
    cases rs with
    | cons _ _ => trivial
    | nil =>
      dsimp only
      rcases dct_T r with ⟨e1, e2⟩ | ⟨n, ds, ts, e1, e2, rs, _, _⟩
      · rw [e1, e2]; trivial
      · simp only [e1, e2, intKeys_R rs]
        cases intKeysT ts with
        | none => trivial
        | some ks =>
          simp only
          split
          · exact .newL hB (Rds.maps fun k _ => .int k)
          · trivial
theorem sf_sorted : FnT fSorted qSorted := fun Φ S ds ts r hB => by
  unfold fSorted qSorted
  rcases so_R (key := keyX) (key' := keyXT) (kd := unK) (kd' := unX) (lt := tLt) (fun r => keyX_R r) (fun k => unX_R k) hB r with ⟨e1, n1⟩ | ⟨u, e1, o1, d', S', e2⟩
  · rw [orT_no n1, e1]
    dsimp only
    rcases so_R (key := strD) (key' := strX) (kd := D.str) (kd' := T.str) (lt := sLt) (fun r => strX_R r) (fun k => .str k) hB r with ⟨e3, n3⟩ | ⟨u, e3, o3, d', S', e4⟩
    · rw [orT_no n3, e3]
      dsimp only
      rcases so_R (key := intD) (key' := intX) (kd := D.int) (kd' := T.int) (lt := iLt) (fun r => intX_R r) (fun k => .int k) hB r with ⟨e5, n5⟩ | ⟨u, e5, o5, d', S', e6⟩
      · rw [orT_no n5, e5]
        exact soD_R hB r
      · rw [e5]
        rw [e6] at o5 ⊢
        exact o5
    · rw [e3]
      rw [e4] at o3 ⊢
      exact o3
  · rw [e1]
    rw [e2] at o1 ⊢
    exact o1
section
variable {j : Option Nat} {a b : Den} {p q : TDen}
def tRev (p : TDen) : TDen := fun τ => (p τ).bind fun t => match litsT t with
  | some xs => .ok (.lst xs.reverse)
  | none => .bad
theorem snd_rev (ha : SndE j a p) : SndE j (dRev a) (tRev p) := fun Φ S ε τ er hB => (ha Φ S ε τ er hB).bind fun S1 d t p1 r1 => by
  rcases lits_T r1 with ⟨e1, e2⟩ | ⟨ds, ts, e1, e2, rs⟩
  · rw [e1, e2]; trivial
  · simp only [e1, e2]
    exact .newL (hB.pre p1) rs.rev
end
end DL

set_option Elab.async false
set_option linter.all false
set_option maxRecDepth 100000
set_option maxHeartbeats 1000000
namespace DL
open PySem L2
section
end
end DL

set_option Elab.async false
set_option linter.all false
set_option maxRecDepth 100000
set_option maxHeartbeats 1000000
namespace DL
open PySem L2
section
end
end DL

set_option Elab.async false
set_option linter.all false
set_option maxRecDepth 100000
set_option maxHeartbeats 1000000
namespace DL
open PySem L2
section
end
end DL

set_option Elab.async false
set_option linter.all false
set_option maxRecDepth 100000
set_option maxHeartbeats 1000000
namespace DL
open PySem L2
theorem EnvR.out {Φ : Nat → Prop} {S : Sto} {ε : Env} {τ : TEnv} {o : O} (h : EnvR Φ none S ε τ) : EnvR (plus Φ S.length) none (S ++ [o]) ε τ :=
  h.keep (fun n hn q => q.elim id fun q => by omega) fun n o' _ e => by
    rw [List.getElem?_append_left (List.getElem?_eq_some_iff.mp e).1]
    exact e
end DL

set_option Elab.async false
set_option linter.all false
set_option maxRecDepth 100000
set_option maxHeartbeats 1000000
namespace DL
open PySem L2
def qLtM : TOp := fun t u => match textsT t, textsT u with
  | some ks, some js => .ok (.bl (KS.tLt ks js))
  | _, _ => .bad
theorem sq_ltM : OpT oLtM qLtM := fun Φ S d e t u r r' hB => by
  unfold oLtM qLtM
  rw [textsT_R r, textsT_R r']
  cases textsT t <;> cases textsT u <;> first | trivial | exact .here (.bl _)
end DL
namespace DL
open PySem L2
end DL
namespace DL
open PySem L2
section
end
end DL

set_option Elab.async false
set_option linter.all false
set_option maxRecDepth 100000
set_option maxHeartbeats 1000000
namespace DL
open PySem L2
section
variable {a : Den} {p : TDen}
def tSlL (p : TDen) : TDen := fun τ => (p τ).bind fun d => match d with
  | .lst ds => qSl (.lst ds) none none
  | _ => .bad
theorem snd_slL (ha : SndE none a p) : SndE none (dSl a dNoPart dNoPart) (tSlL p) := fun Φ S ε τ er hB => by
  have h := snd_sl ha snd_noPart snd_noPart Φ S ε τ er hB
  unfold tSl at h
  unfold tSlL
  cases e : p τ with
  | ok t =>
    rw [e] at h
    cases t <;> first | trivial | exact h
  | exc c => rw [e] at h; exact h
  | bad => trivial
theorem fresh_slL (ha : SndE none a p) : FreshE (dSl a dNoPart dNoPart) (tSlL p) := fun Φ S ε τ er hB t et => by
  have h := ha Φ S ε τ er hB
  unfold tSlL at et
  cases e1 : p τ with
  | ok u =>
    rw [e1] at h et
    obtain ⟨S1, d, e2, p1, r⟩ := h
    cases u <;> simp only [RT.bind_ok] at et <;> try (cases et; done)
    rename_i us
    simp only [qSl] at et
    split at et
    · rename_i hk
      cases et
      cases r with
      | lst _ g rs =>
        obtain ⟨a1, a2, a3, a4⟩ := fresh_of p1 (Rds.cut rs none none)
        exact ⟨_, _, _, _, by simp only [dSl, e2, R.bind_ok, dNoPart, oSl, g, rs.len, if_pos hk], a1, a2, a3, rfl, a4⟩
    · cases et
  | exc c => rw [e1] at et; cases et
  | bad => rw [e1] at et; cases et
end
end DL
namespace DL
open PySem L2
def tRevU (p : TDen) : TDen := fun τ => (p τ).bind fun d => match d with
  | .tup ds => .ok (.tup ds.reverse)
  | _ => .bad
theorem snd_revT {j : Option Nat} {a : Den} {p : TDen} (ha : SndE j a p) : SndE j (dRevT a) (tRevU p) := fun Φ S ε τ er hB => (ha Φ S ε τ er hB).bind fun S1 d t p1 r1 => by
  cases r1 <;> try trivial
  rename_i rs
  exact .here (.tup (Rds.rev rs))
end DL

set_option Elab.async false
set_option linter.all false
set_option maxRecDepth 100000
namespace DL
open PySem L2
def oPl : CF → Nat
  | _ => 0
def oCl : CF → Str
  | _ => ""
noncomputable def ov (f : CF → Fn) : CF → OFn := fun g => tv2 (oPl g) (oCl g) (f g)
noncomputable def ct_f_is_word (c : CF → TFn) (o o2 : CF → OFn) : TSDen :=
    (tsSeq (tsIf (tbOr (tbNot (tTest (tIsi "str" (tVar 0)))) (tbOr (tbNot (tTest (tChain qLe qLe (tC (.int 1)) (tFn qLen (tCons (tVar 0) tNil)) (tC (.int 4))))) (tTest (tBin qNotIn (tBin qGet (tVar 0) (tC (.int 0))) (tVar 1))))) (tsRet (tC (.bl false))) tsNil)
    (tsRet (tFn qAll (tCons (tLc (tiAny (tSl (tVar 0) (tPart (tC (.int 1))) tNoPart)) (hN 2) tYes (tBin qIn (tVar 2) (tC (.str "0123456789"))) [2]) tNil))))
theorem cst_f_is_word (c c2 : CF → Fn) : SndS none none (b_f_is_word c c2) (ct_f_is_word (fun g => tv (c g)) (ov c) (ov c2)) := by
  unfold b_f_is_word ct_f_is_word
  exact (ss_seq (ss_if (snd_or (snd_not (snd_test (snd_isi snd_var))) (snd_or (snd_not (snd_test (snd_chain sq_int sq_int snd_int (snd_fn sf_len (snd_cons snd_var snd_nil)) snd_int))) (snd_test (snd_bin sq_notIn (snd_bin sq_get snd_var snd_int) snd_var)))) (ss_ret snd_bl) ss_nil)
    (ss_ret (snd_fn sf_all (snd_cons (snd_lc (si_any (snd_sl snd_var (snd_part snd_int) snd_noPart)) (sg_name 2) snd_yes (snd_bin sq_in snd_var snd_str)) snd_nil))))
theorem cq_f_is_word {n : Nat} {ts : List T} {r : RT T} (e : trun 2 3 (ct_f_is_word (fun g => tv (csem (n + 1) g)) (ov (csem (n + 1))) (ov (csem n))) ts = r) (hr : r ≠ .bad) : tv (csem (n + 2) .f_is_word) ts = r := tv_of (by rw [cs_f_is_word]; exact fn_T (cst_f_is_word _ _)) e hr
noncomputable def ct_f__law_odd (c : CF → TFn) (o o2 : CF → OFn) : TSDen :=
    (tsSeq (tsOwn (tLst (tCons (tNeg (tC (.int 1))) (tCons (tC (.int 0)) (tCons (tC (.int 1)) (tCons (tC (.int 1008)) (tCons (tC (.int 1009)) (tCons (tC (.bl true)) (tCons (tC .non) (tCons (tC (.str "")) (tCons (tC (.str "a")) (tCons (tC (.str "x")) (tCons (tC (.str "p")) (tCons (tC (.str "f")) (tCons (tC (.str "x1")) (tCons (tC (.str "x1234")) (tCons (tC (.str "read")) (tCons (tTup tNil) (tCons (tLst tNil) (tCons (tTup (tCons (tC (.str "ask")) tNil)) tNil))))))))))))))))))) 1)
    (tsSeq (tsReown 1 (tLst (tCons (tTup (tCons (tC (.str "name")) (tCons (tC (.str "x")) tNil))) (tCons (tTup (tCons (tC (.str "read")) (tCons (tC (.str "a")) tNil))) (tCons (tTup (tCons (tC (.str "do")) (tCons (tC (.str "f")) tNil))) (tCons (tTup (tCons (tC (.str "call")) (tCons (tC (.int 0)) (tCons (tTup tNil) (tCons (tTup tNil) tNil))))) (tCons (tTup (tCons (tC (.str "number")) (tCons (tC (.bl true)) tNil))) (tCons (tTup (tCons (tC (.str "ask")) (tCons (tC (.int 1)) tNil))) (tCons (tC (.int 2)) tNil)))))))))
    (tsSeq (tsApp 1 (tTup (tCons (tC (.str "number")) (tCons (tC (.int 0)) tNil))))
    (tsRet (tBin qGet (tVar 1) (tBin qMod (tVar 0) (tC (.int 26))))))))
theorem cst_f__law_odd (c c2 : CF → Fn) : SndS none none (b_f__law_odd c c2) (ct_f__law_odd (fun g => tv (c g)) (ov c) (ov c2)) := by
  unfold b_f__law_odd ct_f__law_odd
  exact (ss_seq (ss_own 1 (snd_lst (snd_cons (snd_neg snd_int) (snd_cons snd_int (snd_cons snd_int (snd_cons snd_int (snd_cons snd_int (snd_cons snd_bl (snd_cons snd_non (snd_cons snd_str (snd_cons snd_str (snd_cons snd_str (snd_cons snd_str (snd_cons snd_str (snd_cons snd_str (snd_cons snd_str (snd_cons snd_str (snd_cons (snd_tup snd_nil) (snd_cons (snd_lst snd_nil) (snd_cons (snd_tup (snd_cons snd_str snd_nil)) snd_nil))))))))))))))))))) (fresh_lst (snd_cons (snd_neg snd_int) (snd_cons snd_int (snd_cons snd_int (snd_cons snd_int (snd_cons snd_int (snd_cons snd_bl (snd_cons snd_non (snd_cons snd_str (snd_cons snd_str (snd_cons snd_str (snd_cons snd_str (snd_cons snd_str (snd_cons snd_str (snd_cons snd_str (snd_cons snd_str (snd_cons (snd_tup snd_nil) (snd_cons (snd_lst snd_nil) (snd_cons (snd_tup (snd_cons snd_str snd_nil)) snd_nil))))))))))))))))))))
    (ss_seq (ss_reown (snd_lst (snd_cons (snd_tup (snd_cons snd_str (snd_cons snd_str snd_nil))) (snd_cons (snd_tup (snd_cons snd_str (snd_cons snd_str snd_nil))) (snd_cons (snd_tup (snd_cons snd_str (snd_cons snd_str snd_nil))) (snd_cons (snd_tup (snd_cons snd_str (snd_cons snd_int (snd_cons (snd_tup snd_nil) (snd_cons (snd_tup snd_nil) snd_nil))))) (snd_cons (snd_tup (snd_cons snd_str (snd_cons snd_bl snd_nil))) (snd_cons (snd_tup (snd_cons snd_str (snd_cons snd_int snd_nil))) (snd_cons snd_int snd_nil)))))))))
    (ss_seq (ss_rel (ss_app (snd_tup (snd_cons snd_str (snd_cons snd_int snd_nil)))))
    (ss_ret (snd_bin sq_get snd_var (snd_bin sq_mod snd_var snd_int))))))
theorem cq_f__law_odd {n : Nat} {ts : List T} {r : RT T} (e : trun 1 2 (ct_f__law_odd (fun g => tv (csem (n + 1) g)) (ov (csem (n + 1))) (ov (csem n))) ts = r) (hr : r ≠ .bad) : tv (csem (n + 2) .f__law_odd) ts = r := tv_of (by rw [cs_f__law_odd]; exact fn_T (cst_f__law_odd _ _)) e hr
noncomputable def ct_f__law_spoilt (c : CF → TFn) (o o2 : CF → OFn) : TSDen :=
    (tsSeq (tsIf (tbAnd (tTest (tBin qGt (tVar 2) (tC (.int 0)))) (tbAnd (tTest (tIsi "tuple" (tVar 0))) (tbAnd (tTest (tBin qGt (tFn qLen (tCons (tVar 0) tNil)) (tC (.int 0)))) (tTest (tBin qGt (tBin qMod (tVar 1) (tC (.int 7))) (tC (.int 0))))))) (tsSeq (tsAsg (tBin qMod (tBin qDiv (tVar 1) (tC (.int 7))) (tFn qLen (tCons (tVar 0) tNil))) (hN 3))
    (tsSeq (tsAsg (tCall 3 (c .f__law_spoilt) (tCons (tBin qGet (tVar 0) (tVar 3)) (tCons (tBin qDiv (tVar 1) (tC (.int 91))) (tCons (tBin qSub (tVar 2) (tC (.int 1))) tNil)))) (hN 4))
    (tsRet (tBin qAdd (tBin qAdd (tSl (tVar 0) tNoPart (tPart (tVar 3))) (tTup (tCons (tVar 4) tNil))) (tSl (tVar 0) (tPart (tBin qAdd (tVar 3) (tC (.int 1)))) tNoPart))))) tsNil)
    (tsSeq (tsIf (tbAnd (tTest (tIsi "tuple" (tVar 0))) (tbAnd (tTest (tBin qGt (tFn qLen (tCons (tVar 0) tNil)) (tC (.int 0)))) (tTest (tBin qEq (tBin qMod (tBin qDiv (tVar 1) (tC (.int 7))) (tC (.int 2))) (tC (.int 0)))))) (tsRet (tBin qGet (tLst (tCons (tFn qList (tCons (tVar 0) tNil)) (tCons (tSl (tVar 0) tNoPart (tPart (tNeg (tC (.int 1))))) (tCons (tBin qAdd (tVar 0) (tSl (tVar 0) (tPart (tNeg (tC (.int 1)))) tNoPart)) (tCons (tSl (tVar 0) (tPart (tC (.int 1))) tNoPart) (tCons (tRevU (tVar 0)) (tCons (tBin qMul (tVar 0) (tC (.int 2))) tNil))))))) (tBin qMod (tBin qDiv (tVar 1) (tC (.int 14))) (tC (.int 6))))) tsNil)
    (tsSeq (tsIf (tbAnd (tTest (tIsi "int" (tVar 0))) (tTest (tBin qEq (tBin qMod (tBin qDiv (tVar 1) (tC (.int 7))) (tC (.int 2))) (tC (.int 0))))) (tsRet (tBin qGet (tLst (tCons (tFn qStrI (tCons (tVar 0) tNil)) (tCons (tBin qSub (tC (.int 0)) (tVar 0)) (tCons (tBin qAdd (tVar 0) (tC (.int 1))) (tCons (tBin qEq (tVar 0) (tC (.int 1))) (tCons (tBin qSub (tVar 0) (tC (.int 1))) (tCons (tBin qAdd (tVar 0) (tC (.int 9))) tNil))))))) (tBin qMod (tBin qDiv (tVar 1) (tC (.int 14))) (tC (.int 6))))) tsNil)
    (tsRet (tCall 1 (c .f__law_odd) (tCons (tBin qDiv (tVar 1) (tC (.int 7))) tNil))))))
theorem cst_f__law_spoilt (c c2 : CF → Fn) : SndS none none (b_f__law_spoilt c c2) (ct_f__law_spoilt (fun g => tv (c g)) (ov c) (ov c2)) := by
  unfold b_f__law_spoilt ct_f__law_spoilt
  exact (ss_seq (ss_if (snd_and (snd_test (snd_bin sq_int snd_var snd_int)) (snd_and (snd_test (snd_isi snd_var)) (snd_and (snd_test (snd_bin sq_int (snd_fn sf_len (snd_cons snd_var snd_nil)) snd_int)) (snd_test (snd_bin sq_int (snd_bin sq_mod snd_var snd_int) snd_int))))) (ss_seq (ss_asg (snd_bin sq_mod (snd_bin sq_div snd_var snd_int) (snd_fn sf_len (snd_cons snd_var snd_nil))) (sg_name 3))
    (ss_seq (ss_asg (snd_call (tv_T _) (snd_cons (snd_bin sq_get snd_var snd_var) (snd_cons (snd_bin sq_div snd_var snd_int) (snd_cons (snd_bin sq_sub snd_var snd_int) snd_nil)))) (sg_name 4))
    (ss_ret (snd_bin sq_add (snd_bin sq_add (snd_sl snd_var snd_noPart (snd_part snd_var)) (snd_tup (snd_cons snd_var snd_nil))) (snd_sl snd_var (snd_part (snd_bin sq_add snd_var snd_int)) snd_noPart))))) ss_nil)
    (ss_seq (ss_if (snd_and (snd_test (snd_isi snd_var)) (snd_and (snd_test (snd_bin sq_int (snd_fn sf_len (snd_cons snd_var snd_nil)) snd_int)) (snd_test (snd_bin sq_eq (snd_bin sq_mod (snd_bin sq_div snd_var snd_int) snd_int) snd_int)))) (ss_ret (snd_bin sq_get (snd_lst (snd_cons (snd_fn sf_list (snd_cons snd_var snd_nil)) (snd_cons (snd_sl snd_var snd_noPart (snd_part (snd_neg snd_int))) (snd_cons (snd_bin sq_add snd_var (snd_sl snd_var (snd_part (snd_neg snd_int)) snd_noPart)) (snd_cons (snd_sl snd_var (snd_part snd_int) snd_noPart) (snd_cons (snd_revT snd_var) (snd_cons (snd_bin sq_mul snd_var snd_int) snd_nil))))))) (snd_bin sq_mod (snd_bin sq_div snd_var snd_int) snd_int))) ss_nil)
    (ss_seq (ss_if (snd_and (snd_test (snd_isi snd_var)) (snd_test (snd_bin sq_eq (snd_bin sq_mod (snd_bin sq_div snd_var snd_int) snd_int) snd_int))) (ss_ret (snd_bin sq_get (snd_lst (snd_cons (snd_fn sf_strI (snd_cons snd_var snd_nil)) (snd_cons (snd_bin sq_sub snd_int snd_var) (snd_cons (snd_bin sq_add snd_var snd_int) (snd_cons (snd_bin sq_eq snd_var snd_int) (snd_cons (snd_bin sq_sub snd_var snd_int) (snd_cons (snd_bin sq_add snd_var snd_int) snd_nil))))))) (snd_bin sq_mod (snd_bin sq_div snd_var snd_int) snd_int))) ss_nil)
    (ss_ret (snd_call (tv_T _) (snd_cons (snd_bin sq_div snd_var snd_int) snd_nil))))))
theorem cq_f__law_spoilt {n : Nat} {ts : List T} {r : RT T} (e : trun 3 5 (ct_f__law_spoilt (fun g => tv (csem (n + 1) g)) (ov (csem (n + 1))) (ov (csem n))) ts = r) (hr : r ≠ .bad) : tv (csem (n + 2) .f__law_spoilt) ts = r := tv_of (by rw [cs_f__law_spoilt]; exact fn_T (cst_f__law_spoilt _ _)) e hr
noncomputable def ct_f_once (c : CF → TFn) (o o2 : CF → OFn) : TSDen :=
    (tsRet (tSS (tVar 0)))
theorem cst_f_once (c c2 : CF → Fn) : SndS none none (b_f_once c c2) (ct_f_once (fun g => tv (c g)) (ov c) (ov c2)) := by
  unfold b_f_once ct_f_once
  exact (ss_ret (snd_ss snd_var))
theorem cq_f_once {n : Nat} {ts : List T} {r : RT T} (e : trun 1 1 (ct_f_once (fun g => tv (csem (n + 1) g)) (ov (csem (n + 1))) (ov (csem n))) ts = r) (hr : r ≠ .bad) : tv (csem (n + 2) .f_once) ts = r := tv_of (by rw [cs_f_once]; exact fn_T (cst_f_once _ _)) e hr
noncomputable def ct_f_is_mark (c : CF → TFn) (o o2 : CF → OFn) : TSDen :=
    (tsSeq (tsIf (tbOr (tbNot (tTest (tIsi "tuple" (tVar 0)))) (tbOr (tTest (tBin qEq (tFn qLen (tCons (tVar 0) tNil)) (tC (.int 0)))) (tbNot (tTest (tIsi "str" (tBin qGet (tVar 0) (tC (.int 0)))))))) (tsRet (tC (.bl false))) tsNil)
    (tsSeq (tsIf (tTest (tBin qIn (tBin qGet (tVar 0) (tC (.int 0))) (tTup (tCons (tC (.str "say")) (tCons (tC (.str "ask")) tNil))))) (tsRet (tBin qEq (tFn qLen (tCons (tVar 0) tNil)) (tC (.int 1)))) tsNil)
    (tsSeq (tsIf (tbOr (tTest (tBin qNe (tFn qLen (tCons (tVar 0) tNil)) (tC (.int 2)))) (tbNot (tTest (tIsi "str" (tBin qGet (tVar 0) (tC (.int 1))))))) (tsRet (tC (.bl false))) tsNil)
    (tsSeq (tsIf (tTest (tBin qEq (tBin qGet (tVar 0) (tC (.int 0))) (tC (.str "do")))) (tsRet (tAndV (tCall 2 (c .f_is_word) (tCons (tBin qGet (tVar 0) (tC (.int 1))) (tCons (tC (.str "fg")) tNil))) (tBin qIn (tBin qGet (tVar 0) (tC (.int 1))) (tVar 1)))) tsNil)
    (tsRet (tAndV (tBin qIn (tBin qGet (tVar 0) (tC (.int 0))) (tTup (tCons (tC (.str "read")) (tCons (tC (.str "write")) tNil)))) (tAndV (tBin qEq (tFn qLen (tCons (tBin qGet (tVar 0) (tC (.int 1))) tNil)) (tC (.int 1))) (tBin qIn (tBin qGet (tVar 0) (tC (.int 1))) (tC (.str "abcd"))))))))))
theorem cst_f_is_mark (c c2 : CF → Fn) : SndS none none (b_f_is_mark c c2) (ct_f_is_mark (fun g => tv (c g)) (ov c) (ov c2)) := by
  unfold b_f_is_mark ct_f_is_mark
  exact (ss_seq (ss_if (snd_or (snd_not (snd_test (snd_isi snd_var))) (snd_or (snd_test (snd_bin sq_eq (snd_fn sf_len (snd_cons snd_var snd_nil)) snd_int)) (snd_not (snd_test (snd_isi (snd_bin sq_get snd_var snd_int)))))) (ss_ret snd_bl) ss_nil)
    (ss_seq (ss_if (snd_test (snd_bin sq_in (snd_bin sq_get snd_var snd_int) (snd_tup (snd_cons snd_str (snd_cons snd_str snd_nil))))) (ss_ret (snd_bin sq_eq (snd_fn sf_len (snd_cons snd_var snd_nil)) snd_int)) ss_nil)
    (ss_seq (ss_if (snd_or (snd_test (snd_bin sq_ne (snd_fn sf_len (snd_cons snd_var snd_nil)) snd_int)) (snd_not (snd_test (snd_isi (snd_bin sq_get snd_var snd_int))))) (ss_ret snd_bl) ss_nil)
    (ss_seq (ss_if (snd_test (snd_bin sq_eq (snd_bin sq_get snd_var snd_int) snd_str)) (ss_ret (snd_andV (snd_call (tv_T _) (snd_cons (snd_bin sq_get snd_var snd_int) (snd_cons snd_str snd_nil))) (snd_bin sq_in (snd_bin sq_get snd_var snd_int) snd_var))) ss_nil)
    (ss_ret (snd_andV (snd_bin sq_in (snd_bin sq_get snd_var snd_int) (snd_tup (snd_cons snd_str (snd_cons snd_str snd_nil)))) (snd_andV (snd_bin sq_eq (snd_fn sf_len (snd_cons (snd_bin sq_get snd_var snd_int) snd_nil)) snd_int) (snd_bin sq_in (snd_bin sq_get snd_var snd_int) snd_str))))))))
theorem cq_f_is_mark {n : Nat} {ts : List T} {r : RT T} (e : trun 2 2 (ct_f_is_mark (fun g => tv (csem (n + 1) g)) (ov (csem (n + 1))) (ov (csem n))) ts = r) (hr : r ≠ .bad) : tv (csem (n + 2) .f_is_mark) ts = r := tv_of (by rw [cs_f_is_mark]; exact fn_T (cst_f_is_mark _ _)) e hr
noncomputable def ct_f_is_kind (c : CF → TFn) (o o2 : CF → OFn) : TSDen :=
    (tsSeq (tsIf (tbOr (tbNot (tTest (tIsi "list" (tVar 0)))) (tbNot (tTest (tFn qAll (tCons (tLc (tiAny (tVar 0)) (hN 2) tYes (tCall 2 (c .f_is_mark) (tCons (tVar 2) (tCons (tVar 1) tNil))) [2]) tNil))))) (tsRet (tC (.bl false))) tsNil)
    (tsRet (tFn qAll (tCons (tLc (tiZip (tVar 0) (tSl (tVar 0) (tPart (tC (.int 1))) tNoPart)) (hT 2 (hsCons (hN 3) (hsCons (hN 4) hsNil))) tYes (tBin qLtM (tVar 3) (tVar 4)) [3, 4]) tNil))))
theorem cst_f_is_kind (c c2 : CF → Fn) : SndS none none (b_f_is_kind c c2) (ct_f_is_kind (fun g => tv (c g)) (ov c) (ov c2)) := by
  unfold b_f_is_kind ct_f_is_kind
  exact (ss_seq (ss_if (snd_or (snd_not (snd_test (snd_isi snd_var))) (snd_not (snd_test (snd_fn sf_all (snd_cons (snd_lc (si_any snd_var) (sg_name 2) snd_yes (snd_call (tv_T _) (snd_cons snd_var (snd_cons snd_var snd_nil)))) snd_nil))))) (ss_ret snd_bl) ss_nil)
    (ss_ret (snd_fn sf_all (snd_cons (snd_lc (si_zip snd_var (snd_sl snd_var (snd_part snd_int) snd_noPart)) (sg_tup (sg_cons (sg_name 3) (sg_cons (sg_name 4) sg_nil))) snd_yes (snd_bin sq_ltM snd_var snd_var)) snd_nil))))
theorem cq_f_is_kind {n : Nat} {ts : List T} {r : RT T} (e : trun 2 5 (ct_f_is_kind (fun g => tv (csem (n + 1) g)) (ov (csem (n + 1))) (ov (csem n))) ts = r) (hr : r ≠ .bad) : tv (csem (n + 2) .f_is_kind) ts = r := tv_of (by rw [cs_f_is_kind]; exact fn_T (cst_f_is_kind _ _)) e hr
noncomputable def ct_f_is_less (c : CF → TFn) (o o2 : CF → OFn) : TSDen :=
    (tsRet (tFn qAll (tCons (tLc (tiAny (tVar 0)) (hN 2) tYes (tBin qIn (tVar 2) (tVar 1)) [2]) tNil)))
theorem cst_f_is_less (c c2 : CF → Fn) : SndS none none (b_f_is_less c c2) (ct_f_is_less (fun g => tv (c g)) (ov c) (ov c2)) := by
  unfold b_f_is_less ct_f_is_less
  exact (ss_ret (snd_fn sf_all (snd_cons (snd_lc (si_any snd_var) (sg_name 2) snd_yes (snd_bin sq_in snd_var snd_var)) snd_nil)))
theorem cq_f_is_less {n : Nat} {ts : List T} {r : RT T} (e : trun 2 3 (ct_f_is_less (fun g => tv (csem (n + 1) g)) (ov (csem (n + 1))) (ov (csem n))) ts = r) (hr : r ≠ .bad) : tv (csem (n + 2) .f_is_less) ts = r := tv_of (by rw [cs_f_is_less]; exact fn_T (cst_f_is_less _ _)) e hr
noncomputable def ct_f_joined (c : CF → TFn) (o o2 : CF → OFn) : TSDen :=
    (tsRet (tCall 1 (c .f_once) (tCons (tBin qAdd (tVar 0) (tVar 1)) tNil)))
theorem cst_f_joined (c c2 : CF → Fn) : SndS none none (b_f_joined c c2) (ct_f_joined (fun g => tv (c g)) (ov c) (ov c2)) := by
  unfold b_f_joined ct_f_joined
  exact (ss_ret (snd_call (tv_T _) (snd_cons (snd_bin sq_add snd_var snd_var) snd_nil)))
theorem cq_f_joined {n : Nat} {ts : List T} {r : RT T} (e : trun 2 2 (ct_f_joined (fun g => tv (csem (n + 1) g)) (ov (csem (n + 1))) (ov (csem n))) ts = r) (hr : r ≠ .bad) : tv (csem (n + 2) .f_joined) ts = r := tv_of (by rw [cs_f_joined]; exact fn_T (cst_f_joined _ _)) e hr
noncomputable def ct_f_both_of (c : CF → TFn) (o o2 : CF → OFn) : TSDen :=
    (tsRet (tLc (tiAny (tVar 0)) (hN 2) (tTest (tBin qIn (tVar 2) (tVar 1))) (tVar 2) [2]))
theorem cst_f_both_of (c c2 : CF → Fn) : SndS none none (b_f_both_of c c2) (ct_f_both_of (fun g => tv (c g)) (ov c) (ov c2)) := by
  unfold b_f_both_of ct_f_both_of
  exact (ss_ret (snd_lc (si_any snd_var) (sg_name 2) (snd_test (snd_bin sq_in snd_var snd_var)) snd_var))
theorem cq_f_both_of {n : Nat} {ts : List T} {r : RT T} (e : trun 2 3 (ct_f_both_of (fun g => tv (csem (n + 1) g)) (ov (csem (n + 1))) (ov (csem n))) ts = r) (hr : r ≠ .bad) : tv (csem (n + 2) .f_both_of) ts = r := tv_of (by rw [cs_f_both_of]; exact fn_T (cst_f_both_of _ _)) e hr
noncomputable def ct_f__law_is_mark (c : CF → TFn) (o o2 : CF → OFn) : TSDen :=
    (tsSeq (tsIf (tbOr (tbNot (tTest (tIsi "tuple" (tVar 0)))) (tTest (tBin qIn (tVar 0) (tTup (tCons (tTup (tCons (tC (.str "say")) tNil)) (tCons (tTup (tCons (tC (.str "ask")) tNil)) tNil)))))) (tsRet (tIsi "tuple" (tVar 0))) tsNil)
    (tsSeq (tsIf (tbOr (tTest (tBin qNe (tFn qLen (tCons (tVar 0) tNil)) (tC (.int 2)))) (tbOr (tbNot (tTest (tIsi "str" (tBin qGet (tVar 0) (tC (.int 0)))))) (tbNot (tTest (tIsi "str" (tBin qGet (tVar 0) (tC (.int 1)))))))) (tsRet (tC (.bl false))) tsNil)
    (tsSeq (tsIf (tTest (tBin qEq (tBin qGet (tVar 0) (tC (.int 0))) (tC (.str "do")))) (tsRet (tBin qIn (tBin qGet (tVar 0) (tC (.int 1))) (tVar 1))) tsNil)
    (tsRet (tAndV (tBin qIn (tBin qGet (tVar 0) (tC (.int 0))) (tTup (tCons (tC (.str "read")) (tCons (tC (.str "write")) tNil)))) (tBin qIn (tBin qGet (tVar 0) (tC (.int 1))) (tTup (tCons (tC (.str "a")) (tCons (tC (.str "b")) (tCons (tC (.str "c")) (tCons (tC (.str "d")) tNil)))))))))))
theorem cst_f__law_is_mark (c c2 : CF → Fn) : SndS none none (b_f__law_is_mark c c2) (ct_f__law_is_mark (fun g => tv (c g)) (ov c) (ov c2)) := by
  unfold b_f__law_is_mark ct_f__law_is_mark
  exact (ss_seq (ss_if (snd_or (snd_not (snd_test (snd_isi snd_var))) (snd_test (snd_bin sq_in snd_var (snd_tup (snd_cons (snd_tup (snd_cons snd_str snd_nil)) (snd_cons (snd_tup (snd_cons snd_str snd_nil)) snd_nil)))))) (ss_ret (snd_isi snd_var)) ss_nil)
    (ss_seq (ss_if (snd_or (snd_test (snd_bin sq_ne (snd_fn sf_len (snd_cons snd_var snd_nil)) snd_int)) (snd_or (snd_not (snd_test (snd_isi (snd_bin sq_get snd_var snd_int)))) (snd_not (snd_test (snd_isi (snd_bin sq_get snd_var snd_int)))))) (ss_ret snd_bl) ss_nil)
    (ss_seq (ss_if (snd_test (snd_bin sq_eq (snd_bin sq_get snd_var snd_int) snd_str)) (ss_ret (snd_bin sq_in (snd_bin sq_get snd_var snd_int) snd_var)) ss_nil)
    (ss_ret (snd_andV (snd_bin sq_in (snd_bin sq_get snd_var snd_int) (snd_tup (snd_cons snd_str (snd_cons snd_str snd_nil)))) (snd_bin sq_in (snd_bin sq_get snd_var snd_int) (snd_tup (snd_cons snd_str (snd_cons snd_str (snd_cons snd_str (snd_cons snd_str snd_nil)))))))))))
theorem cq_f__law_is_mark {n : Nat} {ts : List T} {r : RT T} (e : trun 2 2 (ct_f__law_is_mark (fun g => tv (csem (n + 1) g)) (ov (csem (n + 1))) (ov (csem n))) ts = r) (hr : r ≠ .bad) : tv (csem (n + 2) .f__law_is_mark) ts = r := tv_of (by rw [cs_f__law_is_mark]; exact fn_T (cst_f__law_is_mark _ _)) e hr
noncomputable def ct_f__law_is_kind (c : CF → TFn) (o o2 : CF → OFn) : TSDen :=
    (tsSeq (tsIf (tbOr (tbNot (tTest (tIsi "list" (tVar 0)))) (tTest (tBin qNe (tLc (tiAny (tVar 0)) (hN 2) (tbNot (tTest (tCall 2 (c .f__law_is_mark) (tCons (tVar 2) (tCons (tVar 1) tNil))))) (tVar 2) [2]) (tLst tNil)))) (tsRet (tC (.bl false))) tsNil)
    (tsRet (tBin qEq (tVar 0) (tSS (tVar 0)))))
theorem cst_f__law_is_kind (c c2 : CF → Fn) : SndS none none (b_f__law_is_kind c c2) (ct_f__law_is_kind (fun g => tv (c g)) (ov c) (ov c2)) := by
  unfold b_f__law_is_kind ct_f__law_is_kind
  exact (ss_seq (ss_if (snd_or (snd_not (snd_test (snd_isi snd_var))) (snd_test (snd_bin sq_ne (snd_lc (si_any snd_var) (sg_name 2) (snd_not (snd_test (snd_call (tv_T _) (snd_cons snd_var (snd_cons snd_var snd_nil))))) snd_var) (snd_lst snd_nil)))) (ss_ret snd_bl) ss_nil)
    (ss_ret (snd_bin sq_eq snd_var (snd_ss snd_var))))
theorem cq_f__law_is_kind {n : Nat} {ts : List T} {r : RT T} (e : trun 2 3 (ct_f__law_is_kind (fun g => tv (csem (n + 1) g)) (ov (csem (n + 1))) (ov (csem n))) ts = r) (hr : r ≠ .bad) : tv (csem (n + 2) .f__law_is_kind) ts = r := tv_of (by rw [cs_f__law_is_kind]; exact fn_T (cst_f__law_is_kind _ _)) e hr
noncomputable def ct_f__law_kind (c : CF → TFn) (o o2 : CF → OFn) : TSDen :=
    (tsSeq (tsAsg (tBin qAdd (tLst (tCons (tTup (tCons (tC (.str "ask")) tNil)) (tCons (tTup (tCons (tC (.str "say")) tNil)) tNil))) (tLc (tiAny (tVar 2)) (hN 5) tYes (tTup (tCons (tC (.str "do")) (tCons (tVar 5) tNil))) [5])) (hN 3))
    (tsSeq (tsFor (tiAny (tC (.str "abcd"))) (hN 4) (tsAsg (tBin qAdd (tVar 3) (tLst (tCons (tTup (tCons (tC (.str "read")) (tCons (tVar 4) tNil))) (tCons (tTup (tCons (tC (.str "write")) (tCons (tVar 4) tNil))) tNil)))) (hN 3)))
    (tsRet (tFn qSorted (tCons (tLc (tiEnumA (tVar 3)) (hT 2 (hsCons (hN 6) (hsCons (hN 7) hsNil))) (tTest (tBin qEq (tCall 3 (c .f__law_drawn) (tCons (tVar 0) (tCons (tBin qAdd (tVar 1) (tVar 6)) (tCons (tC (.int 3)) tNil)))) (tC (.int 0)))) (tVar 7) [6, 7]) tNil)))))
theorem cst_f__law_kind (c c2 : CF → Fn) : SndS none none (b_f__law_kind c c2) (ct_f__law_kind (fun g => tv (c g)) (ov c) (ov c2)) := by
  unfold b_f__law_kind ct_f__law_kind
  exact (ss_seq (ss_asg (snd_bin sq_add (snd_lst (snd_cons (snd_tup (snd_cons snd_str snd_nil)) (snd_cons (snd_tup (snd_cons snd_str snd_nil)) snd_nil))) (snd_lc (si_any snd_var) (sg_name 5) snd_yes (snd_tup (snd_cons snd_str (snd_cons snd_var snd_nil))))) (sg_name 3))
    (ss_seq (ss_for (si_any snd_str) (sg_name 4) (ss_asg (snd_bin sq_add snd_var (snd_lst (snd_cons (snd_tup (snd_cons snd_str (snd_cons snd_var snd_nil))) (snd_cons (snd_tup (snd_cons snd_str (snd_cons snd_var snd_nil))) snd_nil)))) (sg_name 3)))
    (ss_ret (snd_fn sf_sorted (snd_cons (snd_lc (si_enumA snd_var) (sg_tup (sg_cons (sg_name 6) (sg_cons (sg_name 7) sg_nil))) (snd_test (snd_bin sq_eq (snd_call (tv_T _) (snd_cons snd_var (snd_cons (snd_bin sq_add snd_var snd_var) (snd_cons snd_int snd_nil)))) snd_int)) snd_var) snd_nil)))))
theorem cq_f__law_kind {n : Nat} {ts : List T} {r : RT T} (e : trun 3 8 (ct_f__law_kind (fun g => tv (csem (n + 1) g)) (ov (csem (n + 1))) (ov (csem n))) ts = r) (hr : r ≠ .bad) : tv (csem (n + 2) .f__law_kind) ts = r := tv_of (by rw [cs_f__law_kind]; exact fn_T (cst_f__law_kind _ _)) e hr
end DL

set_option Elab.async false
set_option linter.all false
set_option maxRecDepth 100000
set_option maxHeartbeats 1000000
namespace DL
open PySem L2
mutual
def rfD : D → Bool
  | .non => true | .bl _ => true | .int _ => true | .str _ => true
  | .tup ts => rfDs ts
  | .seq ts => rfDs ts
  | .ref _ => false
def rfDs : List D → Bool
  | [] => true
  | t :: ts => rfD t && rfDs ts
end
section
end
def isMk (m : D) : Prop := (∃ v, m = markA v) ∨ (∃ x v, m = markR x v) ∨ (∃ x v, m = markW x v) ∨ ∃ v, m = markS v
theorem isMk.rf {m : D} (h : isMk m) : rfD m = true := by
  rcases h with ⟨v, rfl⟩ | ⟨x, v, rfl⟩ | ⟨x, v, rfl⟩ | ⟨v, rfl⟩ <;> rfl
def MkS (a b : Stt) : Prop := ∃ ms, b.marks = a.marks ++ ms ∧ ∀ m ∈ ms, isMk m
theorem MkS.one {a b : Stt} {m : D} (h : b.marks = a.marks ++ [m]) (hm : isMk m) : MkS a b := ⟨[m], h, fun x hx => by rw [List.mem_singleton.mp hx]; exact hm⟩
theorem MkS.same {a b : Stt} (h : b.marks = a.marks) : MkS a b := ⟨[], by simp [h], fun m h => by cases h⟩
theorem MkS.trans {a b c : Stt} (x : MkS a b) (y : MkS b c) : MkS a c := by
  obtain ⟨m1, e1, h1⟩ := x
  obtain ⟨m2, e2, h2⟩ := y
  exact ⟨m1 ++ m2, by rw [e2, e1, List.append_assoc], fun m hm => (List.mem_append.mp hm).elim (h1 m) (h2 m)⟩
def shT (k : Str → Int) : T := .tup (abcd.map fun x => .int (k x))
def outT (o : Int × Stt) : T := .tup [.int o.1, shT o.2.kept, lints o.2.spoken, .int o.2.many]
section
end
section
end
end DL

set_option Elab.async false
set_option linter.all false
set_option maxRecDepth 100000
set_option maxHeartbeats 1000000
namespace DL
open PySem L2
section
variable {τ τ' : TEnv} {p q r : TDen} {g : DL.TG} {u v w : TSDen} {c c' : TDenB} {t : T} {f : TFl} {x : RT TFl} {b : Bool}
theorem t_asg (hp : p τ = .ok t) (hg : g t τ = some τ') (k : w τ' = x) : tsSeq (tsAsg p g) w τ = x := by
  simp only [tsSeq, tsAsg, hp, tsE, hg, tsN]
  exact k
theorem t_asg1 (hp : p τ = .ok t) (hg : g t τ = some τ') : tsAsg p g τ = .ok (.nx τ') := by
  simp only [tsAsg, hp, tsE, hg]
theorem t_skip (hc : c τ = .ok false) (k : w τ = x) : tsSeq (tsIf c u tsNil) w τ = x := by
  simp only [tsSeq, tsIf, hc, tsE, tsNil, tsN]
  exact k
theorem t_if (hc : c τ = .ok b) (k : (if b = true then u τ else v τ) = x) : tsIf c u v τ = x := by
  simp only [tsIf, hc, tsE]
  exact k
theorem t_seq (h : u τ = .ok (.nx τ')) (k : w τ' = x) : tsSeq u w τ = x := by
  simp only [tsSeq, h, tsN]
  exact k
theorem t_seqR (h : u τ = .ok (.rt t)) : tsSeq u w τ = .ok (.rt t) := by
  simp only [tsSeq, h, tsN]
theorem t_ret (hp : p τ = .ok t) : tsRet p τ = .ok (.rt t) := by simp only [tsRet, hp, tsE]
theorem t_run {np nN : Nat} {ts : List T} (hl : ts.length = np) (h : u (ts.map some ++ List.replicate (nN - np) none) = .ok (.rt t)) : trun np nN u ts = .ok t := by
  unfold trun
  rw [if_pos hl, h]
theorem t_own {i : Nat} (hp : p τ = .ok t) (hi : i < τ.length) (k : w (τ.set i (some t)) = x) : tsSeq (tsOwn p i) w τ = x := by
  simp only [tsSeq, tsOwn, hp, tsE, if_pos hi, tsN]
  exact k
theorem t_for {it : TIt} {ts : List T} (hi : it τ = .ok ts) (k : tForL g u ts τ = x) : tsFor it g u τ = x := by
  simp only [tsFor, hi, tsE]
  exact k
end
def okB (n : Nat) : Bool := decide (n ≤ big)
theorem okB_iff {n : Nat} : okB n = true ↔ n ≤ big := decide_eq_true_iff
theorem okB_of {n : Nat} (h : n ≤ 1000) : okB n = true := okB_iff.mpr (Nat.le_trans h (by decide))
theorem okB_big {n : Nat} (h : n ≤ 1000000) : okB n = true := okB_iff.mpr h
@[simp] theorem okB_0 : okB 0 = true := by decide
@[simp] theorem okB_1 : okB 1 = true := by decide
@[simp] theorem okB_2 : okB 2 = true := by decide
@[simp] theorem okB_3 : okB 3 = true := by decide
@[simp] theorem okB_4 : okB 4 = true := by decide
@[simp] theorem okB_5 : okB 5 = true := by decide
@[simp] theorem okB_6 : okB 6 = true := by decide
@[simp] theorem okB_7 : okB 7 = true := by decide
@[simp] theorem okB_8 : okB 8 = true := by decide
@[simp] theorem okB_9 : okB 9 = true := by decide
@[simp] theorem okB_10 : okB 10 = true := by decide
@[simp] theorem okB_11 : okB 11 = true := by decide
@[simp] theorem okB_12 : okB 12 = true := by decide
def asB : T → RT Bool := fun t => match t with
  | .bl b => .ok b
  | _ => .bad
def asI : T → RT (Option Int) := fun d => match d with
  | .int i => .ok (some i)
  | _ => .bad
section
variable {τ : TEnv} {p q r : TDen} {qs : TDenA} {c d : TDenB} {i n : Nat} {t u : T} {ts us : List T} {b : Bool} {a e : Int} {x y : Str} {f : TFn} {o o' : TOp}
@[simp] theorem te_C : tC t τ = .ok t := rfl
@[simp] theorem te_V (h : τ[i]? = some (some t)) : tVar i τ = .ok t := by simp only [tVar, h]
@[simp] theorem te_nil : tNil τ = .ok [] := rfl
@[simp] theorem te_cons : tCons p qs τ = (p τ).bind fun t => (qs τ).bind fun ts => .ok (t :: ts) := rfl
@[simp] theorem te_bin : tBin o p q τ = (p τ).bind fun t => (q τ).bind fun u => o t u := rfl
@[simp] theorem te_call : tCall n f qs τ = (qs τ).bind fun ts => if ts.length = n then f ts else .bad := rfl
@[simp] theorem te_fn : tFn f qs τ = (qs τ).bind f := rfl
@[simp] theorem te_tup : tTup qs τ = (qs τ).bind fun ts => if okB ts.length = true then .ok (.tup ts) else .bad := by simp only [tTup, okB_iff]
@[simp] theorem te_lst : tLst qs τ = (qs τ).bind fun ts => if okB ts.length = true then .ok (.lst ts) else .bad := by simp only [tLst, okB_iff]
@[simp] theorem te_test : tTest p τ = (p τ).bind asB := rfl
@[simp] theorem asB_bl : asB (.bl b) = .ok b := rfl
@[simp] theorem te_and : tbAnd c d τ = (c τ).bind fun k => if k = true then d τ else .ok false := rfl
@[simp] theorem te_or : tbOr c d τ = (c τ).bind fun k => if k = true then .ok true else d τ := rfl
@[simp] theorem te_not : tbNot c τ = (c τ).bind fun k => .ok (!k) := rfl
@[simp] theorem te_if : tIf c p q τ = (c τ).bind fun k => if k = true then p τ else q τ := rfl
@[simp] theorem te_yes : tYes τ = .ok true := rfl
@[simp] theorem te_sl {lo hi : TDenO} : tSl p lo hi τ = (p τ).bind fun d => (lo τ).bind fun l => (hi τ).bind fun u => qSl d l u := rfl
@[simp] theorem te_noPart : tNoPart τ = .ok none := rfl
@[simp] theorem te_part : tPart p τ = (p τ).bind asI := rfl
@[simp] theorem asI_int : asI (.int a) = .ok (some a) := rfl
@[simp] theorem te_hN : hN i t τ = some (τ.set i (some t)) := rfl
@[simp] theorem te_hsNil : hsNil [] τ = some τ := rfl
@[simp] theorem te_hsCons {g : DL.TG} {gs : DL.TGs} : hsCons g gs (t :: ts) τ = (g t τ).bind fun τ => gs ts τ := rfl
@[simp] theorem te_hT {gs : DL.TGs} : hT n gs (.tup ts) τ = if ts.length = n then gs ts τ else none := rfl
@[simp] theorem te_hL {gs : DL.TGs} : hL n gs (.lst ts) τ = if ts.length = n then gs ts τ else none := rfl
@[simp] theorem q_addI : qAdd (.int a) (.int e) = .ok (.int (a + e)) := rfl
@[simp] theorem q_addL : qAdd (.lst ts) (.lst us) = if okB (ts ++ us).length = true then .ok (.lst (ts ++ us)) else .bad := by simp only [qAdd, okB_iff]
@[simp] theorem q_addT : qAdd (.tup ts) (.tup us) = if okB (ts.length + us.length) = true then .ok (.tup (ts ++ us)) else .bad := by simp only [qAdd, okB_iff]
@[simp] theorem q_subI : qSub (.int a) (.int e) = .ok (.int (a - e)) := rfl
@[simp] theorem q_lt : qLt (.int a) (.int e) = .ok (.bl (decide (a < e))) := rfl
@[simp] theorem q_le : qLe (.int a) (.int e) = .ok (.bl (decide (a ≤ e))) := rfl
@[simp] theorem q_gt : qGt (.int a) (.int e) = .ok (.bl (decide (e < a))) := rfl
@[simp] theorem q_ge : qGe (.int a) (.int e) = .ok (.bl (decide (e ≤ a))) := rfl
@[simp] theorem q_eqI : qEq (.int a) (.int e) = .ok (.bl (decide (a = e))) := rfl
@[simp] theorem q_neI : qNe (.int a) (.int e) = .ok (.bl (!decide (a = e))) := rfl
@[simp] theorem q_eqS : qEq (.str x) (.str y) = .ok (.bl (decide (x = y))) := rfl
@[simp] theorem q_neS : qNe (.str x) (.str y) = .ok (.bl (!decide (x = y))) := rfl
@[simp] theorem q_getT : qGet (.tup ts) (.int a) = match atI ts a with | some t => .ok t | none => .bad := rfl
@[simp] theorem q_getL : qGet (.lst ts) (.int a) = match atI ts a with | some t => .ok t | none => .bad := rfl
@[simp] theorem q_getS : qGet (.seq ts) (.int a) = match atI ts a with | some t => .ok t | none => .bad := rfl
@[simp] theorem q_lenT : qLen [.tup ts] = .ok (.int ts.length) := rfl
@[simp] theorem q_lenL : qLen [.lst ts] = .ok (.int ts.length) := rfl
@[simp] theorem q_lenS : qLen [.seq ts] = .ok (.int ts.length) := rfl
@[simp] theorem q_slT {lo hi : Option Int} : qSl (.tup ts) lo hi = .ok (.tup (cutT ts lo hi)) := rfl
@[simp] theorem q_slL {lo hi : Option Int} : qSl (.lst ts) lo hi = if okB ts.length = true then .ok (.lst (cutT ts lo hi)) else .bad := by simp only [qSl, okB_iff]
@[simp] theorem q_tuple : qTuple [.lst ts] = .ok (.tup ts) := rfl
@[simp] theorem q_tupleT : qTuple [.tup ts] = .ok (.tup ts) := rfl
@[simp] theorem q_listT : qList [.tup ts] = .ok (.lst ts) := rfl
@[simp] theorem q_listL : qList [.lst ts] = .ok (.lst ts) := rfl
@[simp] theorem q_intB : qI [.bl b] = .ok (.int (if b then 1 else 0)) := rfl
@[simp] theorem q_intI : qI [.int a] = .ok (.int a) := rfl
theorem cut_lo {ts : List T} {k : Nat} (h : k ≤ ts.length) : cutT ts none (some (k : Int)) = ts.take k := by
  unfold cutT
  rw [HT.sIx_nat, HT.sIx_none, Nat.min_eq_left h]
  simp
theorem cut_hi {ts : List T} {k : Nat} : cutT ts (some (k : Int)) none = ts.drop k := by
  unfold cutT
  rw [HT.sIx_nat, HT.sIx_none]
  rcases Nat.le_total k ts.length with h | h
  · rw [Nat.min_eq_left h, List.take_of_length_le]
    simp
  · rw [Nat.min_eq_right h, List.drop_length, List.drop_eq_nil_of_le h]
    simp
theorem cut_lo' {ts : List T} {k : Nat} : cutT ts none (some (k : Int)) = ts.take k := by
  rcases Nat.le_total k ts.length with h | h
  · exact cut_lo h
  · unfold cutT
    rw [HT.sIx_nat, HT.sIx_none, Nat.min_eq_right h, List.take_of_length_le h]
    simp
end
section
variable {it : TIt} {g : DL.TG} {c : TDenB} {e : TDen} {vs : List Nat} {τ : TEnv}
theorem tlc_acc {ts : List T} : ∀ {os : List (Option T)} {acc : List T}, ts.length = os.length → (∀ (i : Nat) (t : T) (o : Option T), ts[i]? = some t → os[i]? = some o → ∃ τ1, g t (twipe τ vs) = some τ1 ∧ c τ1 = .ok o.isSome ∧ ∀ v, o = some v → e τ1 = .ok v) → acc.length + ts.length ≤ 100000 →
    tlcI g c e vs τ ts acc = .ok (acc ++ os.filterMap id) := by
  induction ts with
  | nil =>
    intro os acc hl _ _
    cases os with
    | nil => simp [tlcI]
    | cons => simp at hl
  | cons t ts ih =>
    intro os acc hl h hb
    cases os with
    | nil => simp at hl
    | cons o os =>
      obtain ⟨τ1, h1, h2, h3⟩ := h 0 t o rfl rfl
      have hk : ∀ (i : Nat) (t : T) (o : Option T), ts[i]? = some t → os[i]? = some o → ∃ τ1, g t (twipe τ vs) = some τ1 ∧ c τ1 = .ok o.isSome ∧ ∀ v, o = some v → e τ1 = .ok v := fun i t' o' e1 e2 => h (i + 1) t' o' (by simpa using e1) (by simpa using e2)
      unfold tlcI
      simp only [h1, h2, noXT, RT.bind_ok]
      simp only [List.length_cons] at hb hl
      cases o with
      | none => simp only [Option.isSome_none, Bool.false_eq_true, if_false]; rw [ih (by omega) hk (by omega)]; simp
      | some v =>
        simp only [Option.isSome_some, if_true, h3 v rfl, noXT, RT.bind_ok]
        rw [if_pos (Nat.lt_of_lt_of_le (show acc.length < 100001 by omega) (by decide)), ih (by omega) hk (by simp; omega)]
        simp
theorem t_lcO {ts : List T} {os : List (Option T)} (hi : it τ = .ok ts) (hl : ts.length = os.length) (h : ∀ (i : Nat) (t : T) (o : Option T), ts[i]? = some t → os[i]? = some o → ∃ τ1, g t (twipe τ vs) = some τ1 ∧ c τ1 = .ok o.isSome ∧ ∀ v, o = some v → e τ1 = .ok v) (hb : ts.length ≤ 100000) :
    tLc it g c e vs τ = .ok (.lst (os.filterMap id)) := by
  unfold tLc
  rw [hi, RT.bind_ok, tlc_acc hl h (by simpa using hb)]
  rfl
theorem t_lc {α : Type} {l : List α} {m : α → T} {k : α → Bool} {f : α → T} (hi : it τ = .ok (l.map m)) (h : ∀ a ∈ l, ∃ τ1, g (m a) (twipe τ vs) = some τ1 ∧ c τ1 = .ok (k a) ∧ (k a = true → e τ1 = .ok (f a))) (hb : l.length ≤ 100000) :
    tLc it g c e vs τ = .ok (.lst ((l.filter k).map f)) := by
  have := t_lcO (vs := vs) (g := g) (c := c) (e := e) (os := l.map fun a => if k a = true then some (f a) else none) hi (by simp) (fun i t o h1 h2 => by
    rw [List.getElem?_map] at h1 h2
    obtain ⟨a, ha, rfl⟩ := Option.map_eq_some_iff.mp h1
    rw [ha] at h2
    cases h2
    obtain ⟨τ1, a1, a2, a3⟩ := h a (List.mem_of_getElem? ha)
    refine ⟨τ1, a1, ?_, fun v hv => ?_⟩
    · rw [a2]
      cases hk : k a <;> simp [hk]
    · cases hk : k a with
      | true => simp [hk] at hv; rw [← hv]; exact a3 hk
      | false => simp [hk] at hv) (by simpa using hb)
  rw [this]
  congr 2
  clear this hi h hb
  induction l with
  | nil => rfl
  | cons a l ih =>
    cases hk : k a <;> simp [List.filterMap_cons, List.filter_cons, hk, ← ih]
theorem t_lcA {α : Type} {l : List α} {m : α → T} {f : α → T} (hi : it τ = .ok (l.map m)) (h : ∀ a ∈ l, ∃ τ1, g (m a) (twipe τ vs) = some τ1 ∧ e τ1 = .ok (f a)) (hb : l.length ≤ 100000) : tLc it g tYes e vs τ = .ok (.lst (l.map f)) := by
  have := t_lc (vs := vs) (g := g) (c := tYes) (e := e) (k := fun _ => true) (f := f) hi (fun a ha => by
    obtain ⟨τ1, a1, a2⟩ := h a ha
    exact ⟨τ1, a1, rfl, fun _ => a2⟩) hb
  rw [this, List.filter_eq_self.mpr fun _ _ => rfl]
end
mutual
def nsq : T → Bool
  | .non => true | .bl _ => false | .int _ => true | .str _ => true
  | .tup ts => nsqs ts
  | .seq _ => false
  | .lst ts => nsqs ts
  | .dct _ => false
def nsqs : List T → Bool
  | [] => true
  | t :: ts => nsq t && nsqs ts
end
theorem py_one : ∀ (n : Nat) {t u : T} {p : PyData}, nsq t = true → nsq u = true → py n t = some p → py n u = some p → t = u
  | 0, _, _, _, _, _, h, _ => by cases h
  | n + 1, t, u, p, ht, hu, h, h' => by
    have fl : ∀ {ts us : List T} {ps : List PyData}, nsqs ts = true → nsqs us = true → fall (py n) ts = some ps → fall (py n) us = some ps → ts = us := by
      intro ts
      induction ts with
      | nil =>
        intro us ps _ _ h1 h2
        cases h1
        cases us with
        | nil => rfl
        | cons => unfold fall at h2; split at h2 <;> cases h2
      | cons a ts ih =>
        intro us ps h1 h2 h3 h4
        unfold fall at h3
        split at h3
        · rename_i e1 e2
          cases h3
          cases us with
          | nil => cases h4
          | cons b us =>
            unfold fall at h4
            split at h4
            · rename_i e3 e4
              injection h4 with h4
              injection h4 with h5 h6
              subst h5
              subst h6
              unfold nsqs at h1 h2
              rw [Bool.and_eq_true] at h1 h2
              rw [py_one n h1.1 h2.1 e1 e3, ih h1.2 h2.2 e2 e4]
            · cases h4
        · cases h3
    cases t with
    | bl => cases ht
    | seq => cases ht
    | dct => cases ht
    | non => cases h; cases u <;> first | rfl | (cases h') | (simp [py] at h')
    | int i => cases h; cases u <;> first | (cases h'; rfl) | (simp [py] at h')
    | str i => cases h; cases u <;> first | (cases h'; rfl) | (simp [py] at h')
    | tup ts =>
      obtain ⟨ps, e1, rfl⟩ := Option.map_eq_some_iff.mp (show (fall (py n) ts).map PyData.tuple = some p from h)
      cases u with
      | tup us =>
        obtain ⟨qs, e2, e3⟩ := Option.map_eq_some_iff.mp (show (fall (py n) us).map PyData.tuple = _ from h')
        cases e3
        rw [fl (show nsqs ts = true from ht) (show nsqs us = true from hu) e1 e2]
      | lst us =>
        obtain ⟨qs, e2, e3⟩ := Option.map_eq_some_iff.mp (show (fall (py n) us).map PyData.list = _ from h')
        cases e3
      | seq us => cases hu
      | _ => cases h'
    | lst ts =>
      obtain ⟨ps, e1, rfl⟩ := Option.map_eq_some_iff.mp (show (fall (py n) ts).map PyData.list = some p from h)
      cases u with
      | lst us =>
        obtain ⟨qs, e2, e3⟩ := Option.map_eq_some_iff.mp (show (fall (py n) us).map PyData.list = _ from h')
        cases e3
        rw [fl (show nsqs ts = true from ht) (show nsqs us = true from hu) e1 e2]
      | tup us =>
        obtain ⟨qs, e2, e3⟩ := Option.map_eq_some_iff.mp (show (fall (py n) us).map PyData.tuple = _ from h')
        cases e3
      | seq us => cases hu
      | _ => cases h'
def FineK (k : Nat) (t : T) : Prop := nsq t = true ∧ ∃ p, (∀ n, k < n → py n t = some p) ∧ Lay p k ∧ nb p = true
theorem FineK.mono {k j : Nat} {t : T} (h : FineK k t) (hj : k ≤ j) : FineK j t := by
  obtain ⟨a, p, b, c, d⟩ := h
  exact ⟨a, p, fun n hn => b n (by omega), c.mono hj, d⟩
theorem FineK.non (k : Nat) : FineK k .non := ⟨rfl, .none, fun n hn => (by obtain ⟨m, rfl⟩ : ∃ m, n = m + 1 := ⟨n - 1, by omega⟩; rfl), ⟨rfl, by rw [PyData.depth]; omega⟩, rfl⟩
theorem FineK.int (k : Nat) (i : Int) : FineK k (.int i) := ⟨rfl, .int i, fun n hn => (by obtain ⟨m, rfl⟩ : ∃ m, n = m + 1 := ⟨n - 1, by omega⟩; rfl), .int i k, rfl⟩
theorem FineK.str (k : Nat) {x : Str} (h : sok x = true) : FineK k (.str x) := ⟨rfl, .str x, fun n hn => (by obtain ⟨m, rfl⟩ : ∃ m, n = m + 1 := ⟨n - 1, by omega⟩; rfl), .str h k, rfl⟩
def FineL (k : Nat) (ts : List T) : Prop := nsqs ts = true ∧ ∃ ps, (∀ n, k < n → fall (py n) ts = some ps) ∧ Lays ps k ∧ nbs ps = true
theorem FineL.nil (k : Nat) : FineL k [] := ⟨rfl, [], fun _ _ => rfl, .nil k, rfl⟩
theorem FineL.cons {k : Nat} {t : T} {ts : List T} (h : FineK k t) (hs : FineL k ts) : FineL k (t :: ts) := by
  obtain ⟨a, p, b, c, d⟩ := h
  obtain ⟨a', p', b', c', d'⟩ := hs
  exact ⟨by simp [nsqs, a, a'], p :: p', fun n hn => fall_cons (b n hn) (b' n hn), .cons c c', by simp [nbs, d, d']⟩
theorem FineL.all {k : Nat} : ∀ {ts : List T}, (∀ t ∈ ts, FineK k t) → FineL k ts
  | [], _ => .nil k
  | t :: ts, h => .cons (h t List.mem_cons_self) (FineL.all fun u hu => h u (List.mem_cons_of_mem _ hu))
theorem FineK.tup {k : Nat} {ts : List T} (h : FineL k ts) : FineK (k + 1) (.tup ts) := by
  obtain ⟨a, p, b, c, d⟩ := h
  refine ⟨a, .tuple p, fun n hn => ?_, .tup c, d⟩
  obtain ⟨m, rfl⟩ : ∃ m, n = m + 1 := ⟨n - 1, by omega⟩
  show (fall (py m) ts).map PyData.tuple = _
  rw [b m (by omega)]
  rfl
theorem FineK.lst {k : Nat} {ts : List T} (h : FineL k ts) : FineK (k + 1) (.lst ts) := by
  obtain ⟨a, p, b, c, d⟩ := h
  refine ⟨a, .list p, fun n hn => ?_, .lst c, d⟩
  obtain ⟨m, rfl⟩ : ∃ m, n = m + 1 := ⟨n - 1, by omega⟩
  show (fall (py m) ts).map PyData.list = _
  rw [b m (by omega)]
  rfl
abbrev Fine (t : T) : Prop := FineK 38 t
theorem sEqT_dec {t u : T} {b : Bool} [Decidable (t = u)] (ht : nsq t = true) (hu : nsq u = true) (h : sEqT t u = some b) : b = decide (t = u) := by
  unfold sEqT at h
  split at h <;> first | (cases h; simp; done) | (cases ht; done) | (cases hu; done) | (cases h; done)
theorem eqT_fine {t u : T} (ht : Fine t) (hu : Fine u) [Decidable (t = u)] : eqT t u = some (decide (t = u)) := by
  obtain ⟨a, p, b, c, d⟩ := ht
  obtain ⟨a', p', b', c', d'⟩ := hu
  have e1 := b deep (by decide)
  have e2 := b' deep (by decide)
  have key : (if SeqAt.shaped p = true ∧ SeqAt.shaped p' = true then some (PyData.eqv p p') else none) = some (decide (t = u)) := by
    rw [if_pos ⟨c.shaped (by decide), c'.shaped (by decide)⟩]
    congr 1
    rw [Bool.eq_iff_iff, eqv_iff p p' d d', decide_eq_true_iff]
    constructor
    · rintro rfl
      exact py_one deep a a' e1 e2
    · rintro rfl
      rw [e1] at e2
      cases e2
      rfl
  have gen : sEqT t u = none → eqT t u = some (decide (t = u)) := fun h => by
    unfold eqT
    rw [h, e1, e2]
    exact key
  cases h : sEqT t u with
  | none => exact gen h
  | some b =>
    unfold eqT
    rw [h, sEqT_dec a a' h]
open Classical in
theorem qEq_fine {t u : T} (ht : Fine t) (hu : Fine u) : qEq t u = .ok (.bl (decide (t = u))) := by
  unfold qEq
  rw [eqT_fine ht hu]
open Classical in
theorem qNe_fine {t u : T} (ht : Fine t) (hu : Fine u) : qNe t u = .ok (.bl (!decide (t = u))) := by
  unfold qNe
  rw [eqT_fine ht hu]
theorem qNe_same {t u : T} (h : Fine t) (e : t = u) : qNe t u = .ok (.bl false) := by
  subst e
  rw [qNe_fine h h]
  simp
theorem qNe_not {t u : T} (h : Fine t) (h' : Fine u) (e : t ≠ u) : qNe t u = .ok (.bl true) := by
  rw [qNe_fine h h']
  simp [e]
theorem fall_any {n : Nat} {t : T} {p : PyData} (ht : nsq t = true) (hp : py n t = some p) (hnb : nb p = true) : ∀ {us : List T} {ps : List PyData}, nsqs us = true → fall (py n) us = some ps → nbs ps = true → ((ps.any fun z => PyData.eqv z p) = true ↔ t ∈ us)
  | [], _, _, e, _ => by cases e; simp
  | u :: us, _, h, e, hb => by
    unfold fall at e
    split at e
    · rename_i a r e1 e2
      cases e
      unfold nsqs at h
      rw [Bool.and_eq_true] at h
      unfold nbs at hb
      rw [Bool.and_eq_true] at hb
      rw [List.any_cons, Bool.or_eq_true, fall_any ht hp hnb h.2 e2 hb.2, List.mem_cons, eqv_iff _ _ hb.1 hnb]
      constructor
      · rintro (rfl | h2)
        · exact .inl (py_one n ht h.1 hp e1)
        · exact .inr h2
      · rintro (rfl | h2)
        · rw [hp] at e1; cases e1; exact .inl rfl
        · exact .inr h2
    · cases e
theorem flat_any {t : T} (ht : nsq t = true) (hf : flatT t = true) : ∀ {us : List T}, nsqs us = true → us.all flatT = true → ((us.any fun z => eqFT z t) = true ↔ t ∈ us)
  | [], _, _ => by simp
  | u :: us, h, e => by
    unfold nsqs at h
    rw [Bool.and_eq_true] at h
    rw [List.all_cons, Bool.and_eq_true] at e
    rw [List.any_cons, Bool.or_eq_true, flat_any ht hf h.2 e.2, List.mem_cons]
    have : eqFT u t = true ↔ t = u := by
      cases t <;> first | (cases ht; done) | (cases hf; done) | (have h1 := h.1; have e1 := e.1; cases u <;> first | (cases h1; done) | (cases e1; done) | (simp only [eqFT, beq_iff_eq, T.int.injEq]; exact eq_comm) | (simp only [eqFT, beq_iff_eq, T.str.injEq]; exact eq_comm) | (simp [eqFT]; done))
    rw [this]
open Classical in
theorem inS_fine {t u : T} {us : List T} (ht : Fine t) (hu : FineL 37 us) (e : u = .lst us ∨ u = .tup us) : inS t u = some (decide (t ∈ us)) := by
  have ei : itsT u = some us := by rcases e with rfl | rfl <;> rfl
  unfold inS
  rw [ei]
  obtain ⟨a, p, b, c, d⟩ := ht
  obtain ⟨a', ps, b', c', d'⟩ := hu
  simp only
  split
  · rename_i hf
    congr 1
    rw [Bool.eq_iff_iff, flat_any a hf.1 a' hf.2, decide_eq_true_iff]
  · have e1 := b deep (by decide)
    have e1' := b 39 (by decide)
    have e3 : (ps.any fun z => PyData.eqv z p) = decide (t ∈ us) := by
      rw [Bool.eq_iff_iff, fall_any a e1' d a' (b' 39 (by decide)) d', decide_eq_true_iff]
    have e2 : py deep u = some (.list ps) ∨ py deep u = some (.tuple ps) := by
      rcases e with rfl | rfl
      · left
        show (fall (py 39) us).map PyData.list = _
        rw [b' 39 (by decide)]
        rfl
      · right
        show (fall (py 39) us).map PyData.tuple = _
        rw [b' 39 (by decide)]
        rfl
    rw [e1]
    have s1 := c.shaped (by decide)
    rcases e2 with e2 | e2
    · have s2 := (Lay.lst c').shaped (by decide)
      rw [e2]
      simp only [s1, s2, and_self, if_true, e3]
    · have s2 := (Lay.tup c').shaped (by decide)
      rw [e2]
      simp only [s1, s2, and_self, if_true, e3]
theorem inT_of {t u : T} {us : List T} (e : u = .lst us ∨ u = .tup us) : inT t u = inS t u := by
  rcases e with rfl | rfl <;> cases t <;> rfl
open Classical in
theorem qIn_fine {t u : T} {us : List T} (ht : Fine t) (hu : FineL 37 us) (e : u = .lst us ∨ u = .tup us) : qIn t u = .ok (.bl (decide (t ∈ us))) := by
  unfold qIn
  rw [inT_of e, inS_fine ht hu e]
open Classical in
theorem qNotIn_fine {t u : T} {us : List T} (ht : Fine t) (hu : FineL 37 us) (e : u = .lst us ∨ u = .tup us) : qNotIn t u = .ok (.bl !(decide (t ∈ us))) := by
  unfold qNotIn
  rw [inT_of e, inS_fine ht hu e]
end DL
namespace DL
open PySem L2
theorem law_end {f : Fn} {ns : List Int} (h : tv f [tscr ns] = .ok (.bl true)) : ∃ S, f [.seq (ns.map D.int)] [] = .ok (.bl true) S := by
  have a := tv_at f [tscr ns] (fun _ => False) [] [scr ns] (.cons (.seq (rd_ints ns)) .nil) (fun _ q => q.elim)
  rw [h] at a
  obtain ⟨S, d, e, _, r⟩ := a
  cases r
  exact ⟨S, e⟩
section
variable {g : DL.TG} {c : TDenB} {e : TDen} {vs : List Nat} {τ : TEnv} {t : T} {ts acc : List T} {p q : TDen} {a b : Int}
@[simp] theorem noX_ok {α : Type} {x : α} : noXT (.ok x) = .ok x := rfl
theorem ti_any {l : T} (h : p τ = .ok l) (hl : l = .lst ts ∨ l = .tup ts ∨ l = .seq ts) : tiAny p τ = .ok ts := by
  unfold tiAny
  rw [h]
  rcases hl with rfl | rfl | rfl <;> rfl
end
end DL
namespace DL
open PySem L2
section
variable {o : Int × Stt} {ps : List Int × Stt} {xs ys : List Int} {m : Nat} {t : T}
@[simp] theorem g_out0 : qGet (outT o) (.int 0) = .ok (.int o.1) := rfl
@[simp] theorem g_out1 : qGet (outT o) (.int 1) = .ok (shT o.2.kept) := rfl
@[simp] theorem g_out2 : qGet (outT o) (.int 2) = .ok (lints o.2.spoken) := rfl
@[simp] theorem g_out3 : qGet (outT o) (.int 3) = .ok (.int o.2.many) := rfl
@[simp] theorem q_addLi : qAdd (lints xs) (lints ys) = if okB (xs.length + ys.length) = true then .ok (lints (xs ++ ys)) else .bad := by
  simp [lints]
end
end DL

set_option Elab.async false
set_option linter.all false
set_option maxRecDepth 100000
set_option maxHeartbeats 1000000
namespace DL
open PySem L2
theorem RsLaw.take {rs : List Rule} (R : RsLaw rs) (k : Nat) : RsLaw (rs.take k) := by
  refine ⟨⟨fun i r e => ?_, fun r h => R.r.dep r (List.mem_of_mem_take h), fun r h => R.r.len r (List.mem_of_mem_take h)⟩, ?_, fun r h => R.dep r (List.mem_of_mem_take h), fun r h => R.sz r (List.mem_of_mem_take h)⟩
  · have hi : i < k := by
      have := (List.getElem?_eq_some_iff.mp e).1
      rw [List.length_take] at this
      omega
    rw [List.getElem?_take_of_lt hi] at e
    rw [List.take_take, Nat.min_eq_left (by omega)]
    exact R.r.ok i r e
  · have := R.len
    rw [List.length_take]
    omega
section
end
end DL

set_option Elab.async false
set_option linter.all false
set_option maxRecDepth 100000
set_option maxHeartbeats 1000000
namespace DL
open PySem L2
open KS (rise tLt ord_tup mem_rise Rising)
abbrev Mk := List Str
abbrev MR := List (List Str × List Mk)
def mR (x : Str) : Mk := ["read", x]
def mW (x : Str) : Mk := ["write", x]
def mD (x : Str) : Mk := ["do", x]
def mS : Mk := ["say"]
def mA : Mk := ["ask"]
def atCall (hs : List Str) (ms : List (List Mk)) (m : Mk) : List Mk := match m with
  | [w, x] => if w = ("do" : Str) then (match firstAt x hs with
    | some j => ms.getD j []
    | none => []) else [m]
  | m => [m]
def ruleAt (R : MR) (i : Nat) : List Str × List Mk := R.getD i ([], [])
mutual
def mkD (R : MR) : Deed → List Mk
  | .num _ => []
  | .nam _ => []
  | .dod x => [mD x]
  | .ask => [mA]
  | .rd x => [mR x]
  | .wr x a => rise tLt (mW x :: mkD R a)
  | .say a => rise tLt (mS :: mkD R a)
  | .lt _ a b => rise tLt (mkD R a ++ mkD R b)
  | .own x a b => rise tLt (mkD R a ++ (mkD R b).filter fun m => !(m == mR x) && !(m == mW x))
  | .iff a b c => rise tLt (mkD R a ++ mkD R b ++ mkD R c)
  | .two _ a b => rise tLt (mkD R a ++ mkD R b)
  | .call i ps hs => rise tLt ((mkDs R ps).flatten ++ (ruleAt R i).2.flatMap (atCall (ruleAt R i).1 (mkDs R hs)))
def mkDs (R : MR) : List Deed → List (List Mk)
  | [] => []
  | d :: ds => mkD R d :: mkDs R ds
end
def okM (K : List Str) (m : Mk) : Prop := m = mS ∨ m = mA ∨ (∃ x, (x ∈ K ∧ kd x = 2 ∨ x ∈ abcd) ∧ (m = mR x ∨ m = mW x)) ∨ ∃ x, x ∈ K ∧ kd x = 3 ∧ m = mD x
def allM : List Mk := [mS, mA] ++ (["p", "q", "a", "b", "c", "d"] : List Str).flatMap (fun x => [mR x, mW x]) ++ (["f", "g1", "g"] : List Str).map mD
theorem kd2_in {x : Str} (h : kd x = 2) : x ∈ (["p", "q"] : List Str) := by
  unfold kd at h
  split at h
  · omega
  · split at h
    · assumption
    · split at h <;> omega
theorem kd3_in {x : Str} (h : kd x = 3) : x ∈ (["f", "g1", "g"] : List Str) := by
  unfold kd at h
  split at h
  · omega
  · split at h
    · omega
    · split at h
      · assumption
      · omega
theorem okM_all {K : List Str} {m : Mk} (h : okM K m) : m ∈ allM := by
  unfold allM
  rcases h with rfl | rfl | ⟨x, hx, e⟩ | ⟨x, _, hx, rfl⟩
  · simp
  · simp
  · refine List.mem_append_left _ (List.mem_append_right _ (List.mem_flatMap.mpr ⟨x, ?_, by rcases e with rfl | rfl <;> simp⟩))
    rcases hx with ⟨_, hx⟩ | hx
    · exact List.mem_append_left abcd (kd2_in hx)
    · exact List.mem_append_right (["p", "q"] : List Str) hx
  · exact List.mem_append_right _ (List.mem_map_of_mem (kd3_in hx))
theorem few_marks {l : List Mk} (h : ∀ m ∈ l, m ∈ allM) : (rise tLt l).length < 64 := by
  have := KS.nodup_len (rise tLt l) allM (KS.rising_nodup ord_tup (KS.rising_rise ord_tup l)) fun m hm => h m ((mem_rise ord_tup).mp hm)
  exact Nat.lt_of_le_of_lt this (by decide)
end DL

set_option Elab.async false
set_option linter.all false
set_option maxRecDepth 100000
set_option maxHeartbeats 1000000
namespace DL
open PySem
open KS (rise tLt ord_tup mem_rise Rising)
theorem fall_strX : ∀ k : List Str, fall strX (k.map T.str) = some k
  | [] => rfl
  | x :: k => by simp only [List.map_cons, fall, strX, fall_strX k]
theorem keyXT_un {k : List Str} (h : k ≠ []) : keyXT (unX k) = some k := by
  unfold unX
  simp only [keyXT, fall_strX]
  cases k with
  | nil => exact absurd rfl h
  | cons a r => rfl
theorem fall_keyX : ∀ {l : List Mk}, (∀ m ∈ l, m ≠ []) → fall keyXT (l.map unX) = some l
  | [], _ => rfl
  | m :: l, h => by simp only [List.map_cons, fall, keyXT_un (h m List.mem_cons_self), fall_keyX fun z hz => h z (List.mem_cons_of_mem _ hz)]
theorem allM_ne : ∀ m ∈ allM, m ≠ [] := by decide +kernel
theorem qSS_marks {l : List Mk} (h : ∀ m ∈ l, m ∈ allM) : qSS (.lst (l.map unX)) = .ok (.lst ((rise tLt l).map unX)) := by
  have e : sSSk keyXT tLt unX (.lst (l.map unX)) = .ok (.lst ((rise tLt l).map unX)) := by
    unfold sSSk
    simp only [litsT, fall_keyX fun m hm => allM_ne m (h m hm), if_pos (few_marks h)]
  unfold qSS
  rw [e]
theorem once_T {n : Nat} {l : List Mk} (h : ∀ m ∈ l, m ∈ allM) (hn : 2 ≤ n) : tv (csem n .f_once) [.lst (l.map unX)] = .ok (.lst ((rise tLt l).map unX)) := by
  obtain ⟨k, rfl⟩ : ∃ k, n = k + 2 := ⟨n - 2, by omega⟩
  refine cq_f_once ?_ (by simp)
  unfold ct_f_once
  refine t_run rfl (t_ret ?_)
  show (RT.ok (T.lst (l.map unX))).bind qSS = _
  rw [RT.bind_ok, qSS_marks h]
def isTp : T → Bool
  | .tup _ => true
  | _ => false
def okTop (t : T) : Prop := (∃ x, t = .str x) ∨ (∃ i, t = .int i) ∨ ∃ us, t = .tup us
theorem kit_top {t : T} (h : okTop t) : L2.kitB (tyT t) "tuple" = some (isTp t) := by
  rcases h with ⟨x, rfl⟩ | ⟨x, rfl⟩ | ⟨x, rfl⟩
  · show L2.kitB "str" "tuple" = some false; decide +kernel
  · show L2.kitB "int" "tuple" = some false; decide +kernel
  · show L2.kitB "tuple" "tuple" = some true; decide +kernel
theorem top_enc : ∀ d : Deed, ∃ us, encT d = .tup us
  | .num _ => ⟨_, rfl⟩ | .nam _ => ⟨_, rfl⟩ | .dod _ => ⟨_, rfl⟩ | .ask => ⟨_, rfl⟩ | .rd _ => ⟨_, rfl⟩ | .wr _ _ => ⟨_, rfl⟩ | .say _ => ⟨_, rfl⟩
  | .lt _ _ _ => ⟨_, rfl⟩ | .own _ _ _ => ⟨_, rfl⟩ | .iff _ _ _ => ⟨_, rfl⟩ | .two _ _ _ => ⟨_, rfl⟩ | .call _ _ _ => ⟨_, rfl⟩
theorem okTop_enc (d : Deed) : okTop (encT d) := .inr (.inr (top_enc d))
theorem isTp_enc (d : Deed) : isTp (encT d) = true := by obtain ⟨us, e⟩ := top_enc d; rw [e]; rfl
end DL

set_option Elab.async false
set_option linter.all false
set_option maxRecDepth 100000
set_option maxHeartbeats 1000000
namespace DL
open PySem
open KS (rise tLt ord_tup mem_rise Rising)
def lm (l : List Mk) : T := .lst (l.map unX)
theorem lm_add {l m : List Mk} (h : l.length + m.length ≤ 1000000) : qAdd (lm l) (lm m) = .ok (lm (l ++ m)) := by
  unfold lm
  rw [q_addL, if_pos (okB_big (by simpa using h)), List.map_append]
theorem sok_all : ∀ m ∈ allM, ∀ x ∈ m, sok x = true := by decide +kernel
theorem fine_mark {m : Mk} (h : m ∈ allM) (k : Nat) : FineK (k + 1) (unX m) := .tup (.all fun t ht => by
  obtain ⟨x, hx, rfl⟩ := List.mem_map.mp ht
  exact .str k (sok_all m h x hx))
theorem unX_inj {a b : Mk} (h : unX a = unX b) : a = b := by
  have := congrArg textsT h
  simp only [unX, textsT, fall_strX, Option.some.injEq] at this
  exact this
section
end
end DL

set_option Elab.async false
set_option linter.all false
set_option maxRecDepth 100000
set_option maxHeartbeats 1000000
namespace DL
open PySem
open KS (rise tLt ord_tup mem_rise Rising)
theorem L2atI {α : Type} {l : List α} {j : Nat} (h : j < l.length) : L2.atI l (j : Int) = l[j]? := by
  rw [atI_in (by omega) (by omega), Int.toNat_natCast]
end DL

set_option Elab.async false
set_option linter.all false
set_option maxRecDepth 100000
set_option maxHeartbeats 1000000
namespace DL
open PySem
open KS (rise tLt ord_tup mem_rise Rising)
theorem rise_same {l : List Mk} (h : Rising tLt l) : rise tLt l = l := KS.rising_one ord_tup (KS.rising_rise ord_tup l) h fun _ => mem_rise ord_tup
section
end
theorem okTop_str (x : Str) : okTop (.str x) := .inl ⟨x, rfl⟩
abbrev cRWD : TDenB := tTest (tBin qIn (tVar 2) (tTup (tCons (tC (.str "read")) (tCons (tC (.str "write")) (tCons (tC (.str "do")) tNil)))))
abbrev cSA : TDenB := tTest (tBin qIn (tVar 2) (tTup (tCons (tC (.str "say")) (tCons (tC (.str "ask")) tNil))))
abbrev hdT (rest : TSDen) : TSDen := tsSeq (tsAsg (tBin qGet (tVar 1) (tC (.int 0))) (hN 2))
    (tsSeq (tsAsg (tLst tNil) (hN 3))
    (tsSeq (tsIf cRWD (tsAsg (tLst (tCons (tTup (tCons (tVar 2) (tCons (tBin qGet (tVar 1) (tC (.int 1))) tNil))) tNil)) (hN 3)) tsNil)
    (tsSeq (tsIf cSA (tsAsg (tLst (tCons (tTup (tCons (tVar 2) tNil)) tNil)) (hN 3)) tsNil) rest)))
section
variable {A D : T} {w x : Str} {ts : List T} {rest : TSDen} {r : RT TFl}
theorem hd1 (h1 : ∀ z : T, cRWD [some A, some z, some (.str w), some (lm []), none, none, none] = .ok true) (h2 : ∀ z y : T, cSA [some A, some z, some (.str w), some y, none, none, none] = .ok false)
    (k : rest [some A, some (.tup (.str w :: .str x :: ts)), some (.str w), some (lm [[w, x]]), none, none, none] = r) : hdT rest [some A, some (.tup (.str w :: .str x :: ts)), none, none, none, none, none] = r := by
  refine t_asg (t := .str w) (by simp) rfl (t_asg (t := lm []) rfl rfl (t_seq (τ' := [some A, some (.tup (.str w :: .str x :: ts)), some (.str w), some (lm [[w, x]]), none, none, none]) (t_if (h1 _) ?_) (t_skip (h2 _ _) k)))
  rw [if_pos rfl]
  exact t_asg1 (t := lm [[w, x]]) (by simp [lm, unX]) rfl
theorem hd2 (h1 : ∀ z : T, cRWD [some A, some z, some (.str w), some (lm []), none, none, none] = .ok false) (h2 : ∀ z : T, cSA [some A, some z, some (.str w), some (lm []), none, none, none] = .ok true)
    (k : rest [some A, some (.tup (.str w :: ts)), some (.str w), some (lm [[w]]), none, none, none] = r) : hdT rest [some A, some (.tup (.str w :: ts)), none, none, none, none, none] = r := by
  refine t_asg (t := .str w) (by simp) rfl (t_asg (t := lm []) rfl rfl (t_skip (h1 _) (t_seq (τ' := [some A, some (.tup (.str w :: ts)), some (.str w), some (lm [[w]]), none, none, none]) (t_if (h2 _) ?_) k)))
  rw [if_pos rfl]
  exact t_asg1 (t := lm [[w]]) (by simp [lm, unX]) rfl
end
section
end
section
end
end DL

set_option Elab.async false
set_option linter.all false
set_option maxRecDepth 100000
set_option maxHeartbeats 1000000
namespace DL
open PySem
open KS (rise tLt ord_tup mem_rise)
inductive Tch where
  | ask | read (x : Str) | wrt (x : Str) (v : Int) | say (v : Int)
def actT : Tch → Thk
  | .ask => tAskd | .read x => tRead x | .wrt x v => tWrt x v | .say v => tSayd v
def mkT : Tch → Mk
  | .ask => mA | .read x => mR x | .wrt x _ => mW x | .say _ => mS
inductive Pg (α : Type) where
  | ret (a : α) | act (m : Tch) (k : Int → Pg α)
def Pg.bind {α β : Type} : Pg α → (α → Pg β) → Pg β
  | .ret a, f => f a
  | .act m k, f => .act m fun v => (k v).bind f
def Pg.go {α : Type} : Pg α → Stt → α × Stt
  | .ret a, st => (a, st)
  | .act m k, st => (k (actT m st).1).go (actT m st).2
def Pg.In {α : Type} (A : Mk → Prop) : Pg α → Prop
  | .ret _ => True
  | .act m k => A (mkT m) ∧ ∀ v, (k v).In A
theorem Pg.In.mono {α : Type} {A B : Mk → Prop} (hAB : ∀ m, A m → B m) : ∀ {p : Pg α}, p.In A → p.In B
  | .ret _, _ => trivial
  | .act _ _, h => ⟨hAB _ h.1, fun v => Pg.In.mono hAB (h.2 v)⟩
def Stt.withC (s : Stt) (c : List Int) : Stt := ⟨s.kept, s.asked, s.many, s.spoken, s.marks, c⟩
abbrev PT := List Int → Pg (Int × List Int)
def itp (t : PT) : Thk := fun st => (((t st.cells).go st).1.1, ((t st.cells).go st).2.withC ((t st.cells).go st).1.2)
inductive PEV where
  | int (v : Int) | cell (i : Nat) | th (t : PT)
abbrev PEn := Str → Option PEV
def putP (x : Str) (v : PEV) (env : PEn) : PEn := fun y => if y = x then some v else env y
def Sm (t : Thk) (p : PT) : Prop := ∀ st, t st = itp p st
inductive EvP : Option EV → Option PEV → Prop
  | non : EvP none none
  | int (v : Int) : EvP (some (.int v)) (some (.int v))
  | cell (i : Nat) : EvP (some (.cell i)) (some (.cell i))
  | th {t : Thk} {p : PT} : Sm t p → EvP (some (.th t)) (some (.th p))
def EnvP (env : Ev) (pe : PEn) : Prop := ∀ x, EvP (env x) (pe x)
theorem EnvP.put {env : Ev} {pe : PEn} (h : EnvP env pe) {x : Str} {v : EV} {v' : PEV} (r : EvP (some v) (some v')) : EnvP (putE x v env) (putP x v' pe) := fun y => by
  unfold putE putP
  split
  · exact r
  · exact h y
end DL

set_option Elab.async false
set_option linter.all false
set_option maxRecDepth 100000
set_option maxHeartbeats 1000000
namespace DL
open PySem
open KS (rise tLt ord_tup mem_rise Rising)
section
section
end
end
end DL

set_option Elab.async false
set_option linter.all false
set_option maxRecDepth 100000
set_option maxHeartbeats 1000000
namespace DL
open PySem
open KS (rise tLt ord_tup mem_rise Rising)
section
variable {rs : List Rule}
theorem fall_bls' : ∀ bs : List Bool, fall blT (bs.map T.bl) = some bs
  | [] => rfl
  | b :: bs => by simp only [List.map_cons, fall, blT, fall_bls' bs]
theorem qAll_bls (bs : List Bool) : qAll [.lst (bs.map T.bl)] = .ok (.bl (bs.all id)) := by
  show (match fall blT (bs.map T.bl) with | some ns => RT.ok (T.bl (ns.all id)) | none => .bad) = _
  rw [fall_bls']
theorem signs_abcd : signsT "abcd" = abcd.map T.str := by rfl
section
end
end
end DL

set_option Elab.async false
set_option linter.all false
set_option maxRecDepth 100000
set_option maxHeartbeats 1000000
namespace DL
open PySem
open KS (rise tLt ord_tup mem_rise Rising)
end DL

set_option Elab.async false
set_option linter.all false
set_option maxRecDepth 100000
set_option maxHeartbeats 1000000
namespace DL
open PySem
open KS (rise tLt ord_tup mem_rise Rising)
abbrev lmOwn : TSDen := tsIf (tbAnd (tTest (tBin qEq (tBin qGet (tVar 1) (tC (.int 0))) (tC (.str "own")))) (tTest (tBin qEq (tVar 5) (tC (.int 3))))) (tsAsg (tLc (tiAny (tVar 6)) (hN 4) (tTest (tBin qNe (tSl (tVar 4) (tPart (tC (.int 1))) tNoPart) (tTup (tCons (tBin qGet (tVar 1) (tC (.int 1))) tNil)))) (tVar 4) [4]) (hN 6)) tsNil
abbrev lmBody (F : List T → RT T) : TSDen := tsIf (tTest (tIsi "tuple" (tVar 3))) (tsSeq (tsAsg (tCall 2 F (tCons (tVar 0) (tCons (tVar 3) tNil))) (hN 6)) (tsSeq lmOwn (tsAsg (tBin qAdd (tVar 2) (tVar 6)) (hN 2)))) tsNil
section
variable {F : List T → RT T} {A D : T} {f g : List Mk} {t : T} {z4 z5 z6 : Option T} {p : Deed} {k : Nat} {w : Str} {ts : List T}
theorem isi_T {τ : TEnv} (h : τ[3]? = some (some t)) (ho : okTop t) : tTest (tIsi "tuple" (tVar 3)) τ = .ok (isTp t) := by
  show ((tIsi "tuple" (tVar 3)) τ).bind asB = _
  unfold tIsi
  rw [te_V h, RT.bind_ok, kit_top ho]
  rfl
theorem lm_skip (ho : okTop t) (hp : isTp t = false) : lmBody F [some A, some D, some (lm f), some t, z4, z5, z6] = .ok (.nx [some A, some D, some (lm f), some t, z4, z5, z6]) :=
  t_if (b := false) (by rw [isi_T rfl ho, hp]) rfl
theorem lm_part (h : F [A, encT p] = .ok (lm g)) (hg : f.length + g.length ≤ 1000000) (hw : w ≠ "own" ∨ k ≠ 3) :
    lmBody F [some A, some (.tup (.str w :: ts)), some (lm f), some (encT p), z4, some (.int (k : Nat)), z6] = .ok (.nx [some A, some (.tup (.str w :: ts)), some (lm (f ++ g)), some (encT p), z4, some (.int (k : Nat)), some (lm g)]) := by
  refine t_if (b := true) (by rw [isi_T rfl (okTop_enc p), isTp_enc]) ?_
  rw [if_pos rfl]
  refine t_asg (t := lm g) (by simp [h]) rfl ?_
  simp only [List.set_cons_succ, List.set_cons_zero]
  refine t_seq (τ' := [some A, some (.tup (.str w :: ts)), some (lm f), some (encT p), z4, some (.int (k : Nat)), some (lm g)]) (t_if (b := false) ?_ rfl) (t_asg1 (t := lm (f ++ g)) ?_ rfl)
  · simp only [te_and, te_test, te_bin, te_C]
    rw [te_V (t := .tup (.str w :: ts)) rfl, te_V (t := .int (k : Nat)) rfl]
    simp only [RT.bind_ok, q_getT, atI_0, q_eqS, q_eqI, asB_bl]
    rcases hw with hw | hw
    · rw [decide_eq_false hw]; rfl
    · by_cases c : w = "own"
      · rw [decide_eq_true c]
        simp only [if_true, asB_bl]
        congr 1
        exact decide_eq_false (by omega)
      · rw [decide_eq_false c]; rfl
  · simp [lm_add hg]
end
end DL

set_option Elab.async false
set_option linter.all false
set_option maxRecDepth 100000
set_option maxHeartbeats 1000000
namespace DL
open PySem
open KS (rise tLt ord_tup mem_rise Rising)
section
end
end DL

set_option Elab.async false
set_option linter.all false
set_option maxRecDepth 100000
set_option maxHeartbeats 1000000
namespace DL
open PySem
open KS (rise tLt ord_tup mem_rise Rising)
end DL

set_option Elab.async false
set_option linter.all false
set_option maxRecDepth 100000
set_option maxHeartbeats 1000000
namespace DL
open PySem
open KS (rise tLt ord_tup mem_rise Rising)
def ItL (F : List T → RT T) (A : T) (q : T × List Mk) : Prop := (okTop q.1 ∧ isTp q.1 = false ∧ q.2 = []) ∨ ∃ p, q.1 = encT p ∧ F [A, encT p] = .ok (lm q.2) ∧ q.2.length ≤ 17
theorem ItL.str {F : List T → RT T} {A : T} (x : Str) : ItL F A (.str x, []) := .inl ⟨okTop_str x, rfl, rfl⟩
theorem ItL.int {F : List T → RT T} {A : T} (i : Int) : ItL F A (.int i, []) := .inl ⟨.inr (.inl ⟨i, rfl⟩), rfl, rfl⟩
theorem ItL.len {F : List T → RT T} {A : T} {q : T × List Mk} : ItL F A q → q.2.length ≤ 17
  | .inl ⟨_, _, e⟩ => by rw [e]; simp
  | .inr ⟨_, _, _, h⟩ => h
theorem ItL.step {F : List T → RT T} {A : T} {w : Str} {ts : List T} {q : T × List Mk} (hw : w ≠ "own") (h : ItL F A q) {k : Nat} {f : List Mk} {z4 z6 : Option T} (hf : f.length ≤ 100000) :
    ∃ z4' z6', lmBody F [some A, some (.tup (.str w :: ts)), some (lm f), some q.1, z4, some (.int (k : Nat)), z6] = .ok (.nx [some A, some (.tup (.str w :: ts)), some (lm (f ++ q.2)), some q.1, z4', some (.int (k : Nat)), z6']) := by
  obtain ⟨t, g⟩ := q
  rcases h with ⟨h1, h2, h3⟩ | ⟨p, h1, h2, h3⟩
  · simp only at h1 h2 h3
    subst h3
    exact ⟨z4, z6, by rw [List.append_nil]; exact lm_skip h1 h2⟩
  · simp only at h1 h2 h3
    subst h1
    exact ⟨_, _, lm_part h2 (by show f.length + g.length ≤ _; omega) (.inl hw)⟩
section
end
end DL

set_option Elab.async false
set_option linter.all false
set_option maxRecDepth 100000
set_option maxHeartbeats 1000000
namespace DL
open PySem
open KS (rise tLt ord_tup mem_rise Rising)
section
variable {rs : List Rule}
theorem fine_lm {l : List Mk} (h : ∀ m ∈ l, m ∈ allM) : Fine (lm l) := .lst (k := 37) (.all fun t ht => by
  obtain ⟨m, hm, rfl⟩ := List.mem_map.mp ht
  exact fine_mark (h m hm) 36)
end
end DL

set_option Elab.async false
set_option linter.all false
set_option maxRecDepth 100000
set_option maxHeartbeats 1000000
namespace DL
open PySem
open KS (rise tLt sLt ord_tup ord_str mem_rise Rising rising_rise rising_one)
theorem ne_T {p q : TDen} {τ : TEnv} {a b : T} (hp : p τ = .ok a) (hq : q τ = .ok b) (e : a = b) (h : Fine a) : tTest (tBin qNe p q) τ = .ok false := by
  subst e
  rw [te_test, te_bin, hp, hq, RT.bind_ok, RT.bind_ok, qNe_same h rfl]
  rfl
theorem ne_lm {p q : TDen} {τ : TEnv} {a b : List Mk} (hp : p τ = .ok (lm a)) (hq : q τ = .ok (lm b)) (e : a = b) (h : ∀ m ∈ a, m ∈ allM) : tTest (tBin qNe p q) τ = .ok false := ne_T hp hq (by rw [e]) (fine_lm h)
theorem or_f {c d : TDenB} {τ : TEnv} (h : c τ = .ok false) (k : d τ = .ok false) : tbOr c d τ = .ok false := by rw [te_or, h, RT.bind_ok, if_neg (by decide), k]
theorem ss_lm {p : TDen} {τ : TEnv} {a : List Mk} (hp : p τ = .ok (lm a)) (h : ∀ m ∈ a, m ∈ allM) : tSS p τ = .ok (lm (rise tLt a)) := by
  unfold tSS
  rw [hp, RT.bind_ok]
  exact qSS_marks h
section
variable {rs : List Rule}
structure RsM (rs : List Rule) : Prop where
  ok : okRs rs
  len : rs.length ≤ 4
  sz : ∀ r ∈ rs, r.ns.length ≤ 100 ∧ r.hs.length ≤ 100
  dep : ∀ r ∈ rs, dep r.b ≤ 3
theorem RsLaw.m (R : RsLaw rs) : RsM rs := ⟨R.r.ok, by have := R.len; omega, fun r h => by have := R.sz r h; omega, fun r h => by have := R.dep r h; omega⟩
end
end DL

set_option Elab.async false
set_option linter.all false
set_option maxRecDepth 100000
set_option maxHeartbeats 1000000
namespace DL
open PySem
open KS (rise tLt ord_tup mem_rise)
theorem nRW : ¬ (("read" : Str) = "write") := by decide +kernel
theorem nWR : ¬ (("write" : Str) = "read") := by decide +kernel
def Good (A : Mk → Prop) (pe : PEn) (m : Mk) : Prop :=
  (m = mS → A mS) ∧ (m = mA → A mA) ∧ (∀ x ∈ abcd, m = mR x → A (mR x)) ∧ (∀ x ∈ abcd, m = mW x → A (mW x)) ∧ ∀ x t, m = mD x → pe x = some (.th t) → ∀ c, (t c).In A
structure PeK (pe : PEn) (K : List Str) : Prop where
  cell : ∀ x ∈ K, kd x = 2 → ∃ i, pe x = some (.cell i)
  off : ∀ x ∈ abcd, pe x = none
theorem PeK.put {pe : PEn} {K : List Str} (h : PeK pe K) {x : Str} {v : PEV} (hx : kd x ≠ 0) (hv : kd x = 2 → ∃ i, v = .cell i) : PeK (putP x v pe) (x :: K) := by
  refine ⟨fun y hy k2 => ?_, fun y hy => ?_⟩
  · unfold putP
    by_cases e : y = x
    · rw [if_pos e]
      subst e
      obtain ⟨i, rfl⟩ := hv k2
      exact ⟨i, rfl⟩
    · rw [if_neg e]
      rcases List.mem_cons.mp hy with q | q
      · exact absurd q e
      · exact h.cell y q k2
  · unfold putP
    rw [if_neg fun e => hx (by rw [← e]; exact kd0_abcd y hy)]
    exact h.off y hy
theorem Good.put {A : Mk → Prop} {pe : PEn} {m : Mk} (h : Good A pe m) {x : Str} {v : PEV} (hv : ∀ t, v ≠ .th t) : Good A (putP x v pe) m := by
  obtain ⟨h1, h2, h3, h4, h5⟩ := h
  refine ⟨h1, h2, h3, h4, fun y t e q => ?_⟩
  unfold putP at q
  split at q
  · cases q; exact absurd rfl (hv t)
  · exact h5 y t e q
section
end
end DL

set_option Elab.async false
set_option linter.all false
set_option maxRecDepth 100000
set_option maxHeartbeats 1000000
namespace DL
open PySem
open KS (rise tLt ord_tup mem_rise)
def mdT : Tch × Int → D
  | (.ask, v) => markA v | (.read x, v) => markR x v | (.wrt x _, v) => markW x v | (.say _, v) => markS v
def wOf (x : Str) : List (Tch × Int) → Option Int
  | [] => none
  | q :: r => match wOf x r with
    | some v => some v
    | none => match q.1 with
      | .wrt y v => if x = y then some v else none
      | _ => none
def saidOf : List (Tch × Int) → List Int
  | [] => []
  | q :: r => (match q.1 with
    | .say v => [v]
    | _ => []) ++ saidOf r
def nAsk : List (Tch × Int) → Nat
  | [] => 0
  | q :: r => (match q.1 with
    | .ask => 1
    | _ => 0) + nAsk r
def app (ms : List (Tch × Int)) (s : Stt) : Stt := ⟨fun x => (wOf x ms).getD (s.kept x), s.asked, s.many + nAsk ms, s.spoken ++ saidOf ms, s.marks ++ ms.map mdT, s.cells⟩
def Pg.tl {α : Type} : Pg α → Stt → List (Tch × Int)
  | .ret _, _ => []
  | .act m k, s => (m, (actT m s).1) :: (k (actT m s).1).tl (actT m s).2
structure Agr (A : Mk → Prop) (s t : Stt) : Prop where
  rd : ∀ x, A (mR x) → s.kept x = t.kept x
  ak : A mA → ∀ k, aw s.asked (s.many + k) = aw t.asked (t.many + k)
theorem Agr.act {A : Mk → Prop} {s t : Stt} (h : Agr A s t) {m : Tch} (hm : A (mkT m)) : (actT m s).1 = (actT m t).1 ∧ Agr A (actT m s).2 (actT m t).2 := by
  cases m with
  | ask =>
    refine ⟨h.ak hm 0, h.rd, fun a k => ?_⟩
    have := h.ak a (1 + k)
    rw [← Nat.add_assoc, ← Nat.add_assoc] at this
    exact this
  | read x => exact ⟨h.rd x hm, h.rd, h.ak⟩
  | wrt x v =>
    refine ⟨rfl, fun y hy => ?_, h.ak⟩
    show (if y = x then v else s.kept y) = if y = x then v else t.kept y
    rw [h.rd y hy]
  | say v => exact ⟨rfl, h.rd, h.ak⟩
theorem Agr.go {α : Type} {A : Mk → Prop} : ∀ {p : Pg α} {s t : Stt}, p.In A → Agr A s t → (p.go s).1 = (p.go t).1 ∧ p.tl s = p.tl t
  | .ret _, s, t, _, _ => ⟨rfl, rfl⟩
  | .act m k, s, t, h, g => by
    obtain ⟨e, g2⟩ := g.act h.1
    obtain ⟨i1, i2⟩ := Agr.go (p := k (actT m s).1) (h.2 _) g2
    show ((k (actT m s).1).go (actT m s).2).1 = ((k (actT m t).1).go (actT m t).2).1 ∧ (m, (actT m s).1) :: _ = (m, (actT m t).1) :: _
    rw [← e]
    exact ⟨i1, by rw [i2]⟩
theorem wOf_some {x : Str} {v : Int} : ∀ {ms : List (Tch × Int)}, wOf x ms = some v → ∃ q ∈ ms, q.1 = .wrt x v
  | [], h => by simp [wOf] at h
  | q :: r, h => by
    simp only [wOf] at h
    cases e : wOf x r with
    | some u =>
      rw [e] at h
      cases h
      obtain ⟨z, hz, e⟩ := wOf_some e
      exact ⟨z, List.mem_cons_of_mem _ hz, e⟩
    | none =>
      rw [e] at h
      cases e2 : q.1 with
      | wrt y u =>
        rw [e2] at h
        by_cases q2 : x = y
        · subst q2
          simp at h
          exact ⟨q, List.mem_cons_self, by rw [e2, h]⟩
        · simp [q2] at h
      | ask => rw [e2] at h; cases h
      | read y => rw [e2] at h; cases h
      | say y => rw [e2] at h; cases h
section
variable {A B : Mk → Prop}
def Ins (A : Mk → Prop) (ms : List (Tch × Int)) : Prop := ∀ q ∈ ms, A (mkT q.1)
theorem Ins.w {ms : List (Tch × Int)} (h : Ins A ms) {x : Str} (hx : ¬ A (mW x)) : wOf x ms = none := by
  cases e : wOf x ms with
  | none => rfl
  | some v =>
    obtain ⟨q, hq, e2⟩ := wOf_some e
    have := h q hq
    rw [e2] at this
    exact absurd this hx
theorem Ins.s {ms : List (Tch × Int)} (h : Ins A ms) (hx : ¬ A mS) : saidOf ms = [] := by
  induction ms with
  | nil => rfl
  | cons q r ih =>
    have h1 := h q List.mem_cons_self
    unfold saidOf
    rw [ih fun z hz => h z (List.mem_cons_of_mem _ hz)]
    cases e : q.1 with
    | say v => rw [e] at h1; exact absurd h1 hx
    | ask => rfl
    | read y => rfl
    | wrt y u => rfl
theorem Ins.a {ms : List (Tch × Int)} (h : Ins A ms) (hx : ¬ A mA) : nAsk ms = 0 := by
  induction ms with
  | nil => rfl
  | cons q r ih =>
    have h1 := h q List.mem_cons_self
    unfold nAsk
    rw [ih fun z hz => h z (List.mem_cons_of_mem _ hz)]
    cases e : q.1 with
    | ask => rw [e] at h1; exact absurd h1 hx
    | say v => rfl
    | read y => rfl
    | wrt y u => rfl
def Stt.er (s : Stt) : Stt := ⟨s.kept, s.asked, s.many, s.spoken, [], []⟩
theorem er_ext {s t : Stt} (h1 : ∀ x, s.kept x = t.kept x) (h2 : s.asked = t.asked) (h3 : s.many = t.many) (h4 : s.spoken = t.spoken) : s.er = t.er := by
  unfold Stt.er
  rw [funext h1, h2, h3, h4]
structure Apt (A B : Mk → Prop) : Prop where
  w : ∀ x, A (mW x) → ¬ B (mR x) ∧ ¬ B (mW x)
  r : ∀ x, B (mW x) → ¬ A (mR x)
  s : ¬ (A mS ∧ B mS)
  a : ¬ (A mA ∧ B mA)
theorem Apt.symm (h : Apt A B) : Apt B A := ⟨fun x hb => ⟨h.r x hb, fun ha => (h.w x ha).2 hb⟩, fun x ha => (h.w x ha).1, fun q => h.s ⟨q.2, q.1⟩, fun q => h.a ⟨q.2, q.1⟩⟩
theorem Apt.swap (h : Apt A B) {ms ns : List (Tch × Int)} (hm : Ins A ms) (hn : Ins B ns) (s : Stt) : (app ns (app ms s)).er = (app ms (app ns s)).er := by
  refine er_ext (fun x => ?_) rfl ?_ ?_
  · simp only [app]
    by_cases ha : A (mW x)
    · have : wOf x ns = none := hn.w (h.w x ha).2
      simp only [this, Option.getD_none]
    · have : wOf x ms = none := hm.w ha
      simp only [this, Option.getD_none]
  · simp only [app]; omega
  · simp only [app]
    by_cases ha : A mS
    · have : saidOf ns = [] := hn.s fun hb => h.s ⟨ha, hb⟩
      simp [this]
    · have : saidOf ms = [] := hm.s ha
      simp [this]
variable {α β : Type} {p : Pg α} {q : Pg β}
end
end DL

set_option Elab.async false
set_option linter.all false
set_option maxRecDepth 100000
set_option maxHeartbeats 1000000
namespace DL
open PySem
open KS (rise tLt sLt ord_tup ord_str mem_rise Rising rising_rise)
theorem mem_unX {m : Mk} {ys : List Mk} : unX m ∈ ys.map unX ↔ m ∈ ys := by
  constructor
  · intro h
    obtain ⟨y, hy, e⟩ := List.mem_map.mp h
    rw [← unX_inj e]; exact hy
  · exact List.mem_map_of_mem
theorem fineL_lm {ys : List Mk} (hy : ∀ m ∈ ys, m ∈ allM) : FineL 37 (ys.map unX) := .all fun t ht => by
  obtain ⟨m, hm, rfl⟩ := List.mem_map.mp ht
  exact fine_mark (hy m hm) 36
theorem qIn_lm {m : Mk} {ys : List Mk} (hm : ∀ x ∈ m, sok x = true) (hy : ∀ m ∈ ys, m ∈ allM) : qIn (unX m) (lm ys) = .ok (.bl (decide (m ∈ ys))) := by
  have fm : FineK 38 (unX m) := .tup (k := 37) (.all fun t ht => by
    obtain ⟨x, hx, rfl⟩ := List.mem_map.mp ht
    exact .str 37 (hm x hx))
  unfold lm
  rw [qIn_fine fm (fineL_lm hy) (.inl rfl)]
  congr 2
  exact decide_eq_decide.mpr mem_unX
theorem qNotIn_lm {m : Mk} {ys : List Mk} (hm : ∀ x ∈ m, sok x = true) (hy : ∀ m ∈ ys, m ∈ allM) : qNotIn (unX m) (lm ys) = .ok (.bl (!decide (m ∈ ys))) := by
  have fm : FineK 38 (unX m) := .tup (k := 37) (.all fun t ht => by
    obtain ⟨x, hx, rfl⟩ := List.mem_map.mp ht
    exact .str 37 (hm x hx))
  unfold lm
  rw [qNotIn_fine fm (fineL_lm hy) (.inl rfl)]
  congr 3
  exact decide_eq_decide.mpr mem_unX
section
end
end DL

set_option Elab.async false
set_option linter.all false
set_option maxRecDepth 100000
set_option maxHeartbeats 1000000
namespace DL
open PySem
open KS (rise tLt sLt ord_tup ord_str mem_rise Rising rising_rise)
section
end
end DL

set_option Elab.async false
set_option linter.all false
set_option maxRecDepth 100000
set_option maxHeartbeats 1000000
namespace DL
open PySem
open KS (rise tLt sLt ord_tup ord_str mem_rise Rising rising_rise)
def MkB (zs : List Str) (sa aa : Bool) (m : Mk) : Prop := (m = mS ∧ sa = true) ∨ (m = mA ∧ aa = true) ∨ ∃ x ∈ zs, m = mR x ∨ m = mW x
structure Small (zs : List Str) (sa aa : Bool) (k w : Nat) (d : Deed) : Prop where
  ok : okD [] [] d
  dp : dep d ≤ k
  w1 : ∀ (rw : List RW) (hw : Str → Int), wt rw hw d ≤ (w : Int)
  w0 : ∀ (rw : List RW) (hw : Str → Int), 0 ≤ wt rw hw d
  mm : ∀ R, ∀ m ∈ mkD R d, MkB zs sa aa m
theorem Small.up {zs : List Str} {sa aa : Bool} {k k' w w' : Nat} {d : Deed} (h : Small zs sa aa k w d) (hk : k ≤ k') (hw : w ≤ w') : Small zs sa aa k' w' d := ⟨h.ok, Nat.le_trans h.dp hk, fun rw hw' => by have := h.w1 rw hw'; omega, h.w0, h.mm⟩
section
end
end DL

set_option Elab.async false
set_option linter.all false
set_option maxRecDepth 100000
set_option maxHeartbeats 1000000
namespace DL
open PySem
open KS (rise tLt sLt ord_tup ord_str mem_rise Rising rising_rise)
theorem t_forI {I : TEnv → Prop} {g : DL.TG} {u : TSDen} : ∀ {ts : List T} {τ : TEnv}, (∀ t ∈ ts, ∀ τ, I τ → ∃ τ1 τ2, g t τ = some τ1 ∧ u τ1 = .ok (.nx τ2) ∧ I τ2) → I τ → ∃ τ', tForL g u ts τ = .ok (.nx τ') ∧ I τ'
  | [], τ, _, h => ⟨τ, rfl, h⟩
  | t :: ts, τ, h, hi => by
    obtain ⟨τ1, τ2, h1, h2, h3⟩ := h t List.mem_cons_self τ hi
    obtain ⟨τ', e, h4⟩ := t_forI (ts := ts) (fun t ht => h t (List.mem_cons_of_mem _ ht)) h3
    exact ⟨τ', by unfold tForL; simp only [h1, h2, tsN, e], h4⟩
def Nx (I : TEnv → Prop) (x : RT TFl) : Prop := ∃ τ, x = .ok (.nx τ) ∧ I τ
theorem nx_eq {I : TEnv → Prop} {x y : RT TFl} (e : x = y) (h : Nx I y) : Nx I x := e ▸ h
theorem nx_end {I : TEnv → Prop} {x : RT TFl} {τ : TEnv} (e : x = .ok (.nx τ)) (h : I τ) : Nx I x := ⟨τ, e, h⟩
theorem t_forN {I : TEnv → Prop} {g : DL.TG} {u : TSDen} {ts : List T} {τ : TEnv} (h : ∀ t ∈ ts, ∀ τ, I τ → ∃ τ1, g t τ = some τ1 ∧ Nx I (u τ1)) (hi : I τ) : Nx I (tForL g u ts τ) := by
  obtain ⟨τ', e, h⟩ := t_forI (ts := ts) (fun t ht τ hi => by
    obtain ⟨τ1, h1, τ2, h2, h3⟩ := h t ht τ hi
    exact ⟨τ1, τ2, h1, h2, h3⟩) hi
  exact ⟨τ', e, h⟩
section
end
section
variable {A B : Mk → Prop} {p q : Pg Int}
theorem Agr.trans {s t u : Stt} (h : Agr A s t) (g : Agr A t u) : Agr A s u := ⟨fun x hx => (h.rd x hx).trans (g.rd x hx), fun ha k => (h.ak ha k).trans (g.ak ha k)⟩
end
end DL

set_option Elab.async false
set_option linter.all false
set_option maxRecDepth 100000
set_option maxHeartbeats 1000000
namespace DL
open PySem
open KS (rise tLt sLt iLt ord_tup ord_str ord_int mem_rise Rising rising_rise sortK sortK_is Up)
theorem ris_up {K : Type} [DecidableEq K] {lt : K → K → Bool} (O : KS.Ord lt) {l : List K} (h : KS.Rising lt l) : Up lt l := h.imp fun e => O.asym e
theorem qSorted_lm {l : List Mk} (h : ∀ m ∈ l, m ∈ allM) (hl : l.length < 64) : qSorted [lm l] = .ok (lm (sortK tLt l)) := by
  have e : qSo keyXT tLt unX [lm l] = .ok (lm (sortK tLt l)) := by
    have e3 : litsT (lm l) = some (l.map unX) := rfl
    unfold qSo
    simp only [e3, fall_keyX fun m hm => allM_ne m (h m hm)]
    rw [if_pos hl]
    rfl
  unfold qSorted
  rw [e]
  rfl
end DL

set_option Elab.async false
set_option linter.all false
set_option maxRecDepth 100000
set_option maxHeartbeats 1000000
namespace DL
open PySem
open KS (rise tLt sLt iLt ord_tup ord_str ord_int mem_rise Rising rising_rise rising_one sortK sortK_is Up)
def ClsBy (xs ys : List Mk) (z : Str) : Prop :=
  (z = "say" ∧ mS ∈ xs ∧ mS ∈ ys) ∨ (z = "ask" ∧ mA ∈ xs ∧ mA ∈ ys) ∨ (mW z ∈ xs ∧ (mR z ∈ ys ∨ mW z ∈ ys)) ∨ (mR z ∈ xs ∧ mW z ∈ ys)
theorem ClsBy.symm {xs ys : List Mk} {z : Str} : ClsBy xs ys z → ClsBy ys xs z
  | .inl ⟨a, b, c⟩ => .inl ⟨a, c, b⟩
  | .inr (.inl ⟨a, b, c⟩) => .inr (.inl ⟨a, c, b⟩)
  | .inr (.inr (.inl ⟨a, .inl b⟩)) => .inr (.inr (.inr ⟨b, a⟩))
  | .inr (.inr (.inl ⟨a, .inr b⟩)) => .inr (.inr (.inl ⟨b, .inr a⟩))
  | .inr (.inr (.inr ⟨a, b⟩)) => .inr (.inr (.inl ⟨b, .inl a⟩))
end DL

set_option Elab.async false
set_option linter.all false
set_option maxRecDepth 100000
set_option maxHeartbeats 1000000
namespace DL
open PySem
open KS (rise tLt sLt iLt ord_tup ord_str ord_int mem_rise Rising rising_rise rising_one sortK sortK_is Up)
theorem t_forK {I : Nat → TEnv → Prop} {g : DL.TG} {u : TSDen} : ∀ {ts : List T} {τ : TEnv} (k : Nat), (∀ i t, ts[i]? = some t → ∀ τ, I (k + i) τ → ∃ τ1, g t τ = some τ1 ∧ Nx (I (k + i + 1)) (u τ1)) → I k τ → Nx (I (k + ts.length)) (tForL g u ts τ)
  | [], τ, k, _, h => ⟨τ, rfl, h⟩
  | t :: ts, τ, k, h, hi => by
    obtain ⟨τ1, h1, τ2, h2, h3⟩ := h 0 t rfl τ hi
    obtain ⟨τ', e, h4⟩ := t_forK (ts := ts) (k + 1) (fun i t ht τ hi => by
      have := h (i + 1) t (by simpa using ht) τ (by rwa [show k + 1 + i = k + (i + 1) by omega] at hi)
      rwa [show k + (i + 1) + 1 = k + 1 + i + 1 by omega] at this) h3
    refine ⟨τ', by unfold tForL; simp only [h1, h2, tsN, e], ?_⟩
    rwa [show k + 1 + ts.length = k + (t :: ts).length by simp; omega] at h4
section
end
end DL

set_option Elab.async false
set_option linter.all false
set_option maxRecDepth 100000
set_option maxHeartbeats 1000000
namespace DL
open PySem
open KS (rise tLt sLt iLt ord_tup ord_str ord_int mem_rise Rising rising_rise rising_one sortK sortK_is Up)
section
end
end DL

set_option Elab.async false
set_option linter.all false
set_option maxRecDepth 100000
set_option maxHeartbeats 1000000
namespace DL
open PySem
theorem isi_list {p : TDen} {τ : TEnv} {ts : List T} (h : p τ = .ok (.lst ts)) : tIsi "list" p τ = .ok (.bl true) := by
  unfold tIsi
  rw [h, RT.bind_ok]
  rfl
theorem isi_bool {p : TDen} {τ : TEnv} {b : Bool} (h : p τ = .ok (.bl b)) : tIsi "bool" p τ = .ok (.bl true) := by
  unfold tIsi
  rw [h, RT.bind_ok]
  rfl
theorem not_f {p : TDen} {τ : TEnv} (h : p τ = .ok (.bl true)) : tbNot (tTest p) τ = .ok false := by
  simp only [te_not, te_test, h, RT.bind_ok, asB_bl]
  rfl
theorem qNe_bl (a b : Bool) : qNe (.bl a) (.bl b) = .ok (.bl (!decide (a = b))) := by cases a <;> cases b <;> rfl
theorem ne_bl {p q : TDen} {τ : TEnv} {a b : Bool} (hp : p τ = .ok (.bl a)) (hq : q τ = .ok (.bl b)) (e : a = b) : tTest (tBin qNe p q) τ = .ok false := by
  subst e
  rw [te_test, te_bin, hp, hq, RT.bind_ok, RT.bind_ok, qNe_bl, RT.bind_ok, asB_bl]
  simp
theorem get_L {ts : List T} {j : Nat} {t : T} (h : ts[j]? = some t) : qGet (.lst ts) (.int (j : Nat)) = .ok t := by
  have hl : j < ts.length := by
    rcases Nat.lt_or_ge j ts.length with q | q
    · exact q
    · rw [List.getElem?_eq_none q] at h; cases h
  rw [q_getL, L2atI hl, h]
theorem get_lt {α : Type} {l : List α} {j : Nat} {t : α} (h : l[j]? = some t) : j < l.length := by
  rcases Nat.lt_or_ge j l.length with q | q
  · exact q
  · rw [List.getElem?_eq_none q] at h; cases h
theorem map_get {α β : Type} {f : α → β} {l : List α} {j : Nat} {u : β} (h : (l.map f)[j]? = some u) : ∃ e, l[j]? = some e ∧ f e = u := by
  rw [List.getElem?_map] at h
  cases q : l[j]? with
  | none => rw [q] at h; cases h
  | some e => rw [q] at h; exact ⟨e, rfl, by injection h⟩
end DL

set_option Elab.async false
set_option linter.all false
set_option maxRecDepth 100000
set_option maxHeartbeats 1000000
namespace DL
open PySem
open KS (rise tLt sLt iLt ord_tup ord_str ord_int mem_rise Rising rising_rise rising_one sortK sortK_is Up)
section
end
end DL

set_option Elab.async false
set_option linter.all false
set_option maxRecDepth 100000
set_option maxHeartbeats 1000000
namespace DL
open PySem
open KS (rise tLt sLt iLt ord_tup ord_str ord_int mem_rise Rising rising_rise rising_one)
section
end
end DL

set_option Elab.async false
set_option linter.all false
set_option maxRecDepth 100000
set_option maxHeartbeats 1000000
namespace DL
open PySem
open KS (rise tLt sLt iLt ord_tup ord_str ord_int mem_rise Rising rising_rise rising_one sortK sortK_is Up)
section
end
end DL

set_option Elab.async false
set_option linter.all false
set_option maxRecDepth 100000
set_option maxHeartbeats 1000000
namespace DL
open PySem
open KS (rise tLt sLt iLt ord_tup ord_str ord_int mem_rise Rising rising_rise rising_one sortK sortK_is Up)
section
variable (P : Nat → Pg Int)
def Same (x y : List (Nat × Int) × Stt) : Prop := x.1.Perm y.1 ∧ x.2.er = y.2.er
theorem Same.trans {x y z : List (Nat × Int) × Stt} (h : Same x y) (k : Same y z) : Same x z := ⟨h.1.trans k.1, h.2.trans k.2⟩
variable {A : Nat → Mk → Prop} (hP : ∀ k, (P k).In (A k))
include hP
end
section
end
end DL

set_option Elab.async false
set_option linter.all false
set_option maxRecDepth 100000
set_option maxHeartbeats 1000000
namespace DL
open PySem
open KS (rise tLt sLt iLt ord_tup ord_str ord_int mem_rise Rising rising_rise rising_one)
def sideZ (i : Nat) : List Str := ([["a", "b"], ["c"], ["d"]] : List (List Str)).getD i []
structure Side (p q : Nat) (ds : List Deed) : Prop where
  sm : ∀ i d, ds[i]? = some d → Small (sideZ i) (decide (i = p)) (decide (i = q)) 4 40 d
theorem side_apart {i j : Nat} (hi : i < 3) (hj : j < 3) (h : i ≠ j) : ∀ x ∈ sideZ i, x ∉ sideZ j := by
  have : ∀ i ∈ [0, 1, 2], ∀ j ∈ [0, 1, 2], i ≠ j → ∀ x ∈ sideZ i, x ∉ sideZ j := by decide +kernel
  exact this i (by simp; omega) j (by simp; omega) h
theorem mkb_rw {zs : List Str} {sa aa : Bool} {x : Str} : (MkB zs sa aa (mR x) → x ∈ zs) ∧ (MkB zs sa aa (mW x) → x ∈ zs) := by
  constructor
  · rintro (⟨e, _⟩ | ⟨e, _⟩ | ⟨y, hy, e | e⟩)
    · simp [mR, mS] at e
    · simp [mR, mA] at e
    · simp [mR] at e; rw [e]; exact hy
    · simp [mR, mW, nRW] at e
  · rintro (⟨e, _⟩ | ⟨e, _⟩ | ⟨y, hy, e | e⟩)
    · simp [mW, mS] at e
    · simp [mW, mA] at e
    · simp [mR, mW, nWR] at e
    · simp [mW] at e; rw [e]; exact hy
theorem mkb_s {zs : List Str} {sa aa : Bool} : (MkB zs sa aa mS → sa = true) ∧ (MkB zs sa aa mA → aa = true) := by
  constructor
  · rintro (⟨_, e⟩ | ⟨e, _⟩ | ⟨y, hy, e | e⟩)
    · exact e
    · have : mS ≠ mA := by decide +kernel
      exact absurd e this
    · simp [mR, mS] at e
    · simp [mW, mS] at e
  · rintro (⟨e, _⟩ | ⟨_, e⟩ | ⟨y, hy, e | e⟩)
    · have : mA ≠ mS := by decide +kernel
      exact absurd e this
    · exact e
    · simp [mR, mA] at e
    · simp [mW, mA] at e
section
variable {p q : Nat} {ds : List Deed} (S : Side p q ds) (hl : ds.length ≤ 3)
include S hl
theorem Side.apt (R : MR) {i j : Nat} {d e : Deed} (hd : ds[i]? = some d) (he : ds[j]? = some e) (h : i ≠ j) : Apt (· ∈ mkD R d) (· ∈ mkD R e) := by
  have a := (S.sm i d hd).mm R
  have b := (S.sm j e he).mm R
  have hi := get_lt hd
  have hj := get_lt he
  have ap := side_apart (i := i) (j := j) (by omega) (by omega) h
  refine ⟨fun x hx => ⟨fun r => ?_, fun r => ?_⟩, fun x hx r => ?_, fun ⟨x, y⟩ => ?_, fun ⟨x, y⟩ => ?_⟩
  · exact ap x (mkb_rw.2 (a _ hx)) (mkb_rw.1 (b _ r))
  · exact ap x (mkb_rw.2 (a _ hx)) (mkb_rw.2 (b _ r))
  · exact ap x (mkb_rw.1 (a _ r)) (mkb_rw.2 (b _ hx))
  · have := of_decide_eq_true (mkb_s.1 (a _ x)); have := of_decide_eq_true (mkb_s.1 (b _ y)); omega
  · have := of_decide_eq_true (mkb_s.2 (a _ x)); have := of_decide_eq_true (mkb_s.2 (b _ y)); omega
theorem Side.pw (R : MR) : ds.Pairwise (fun d e => Apt (· ∈ mkD R d) (· ∈ mkD R e)) := by
  rw [List.pairwise_iff_getElem]
  intro i j hi hj hij
  exact S.apt hl R (List.getElem?_eq_getElem hi) (List.getElem?_eq_getElem hj) (by omega)
omit hl in
theorem Side.ok (l : List Rule) : ∀ d ∈ ds, okD (szs l) [] d ∧ dep d ≤ 7 ∧ wt (rwt l) (fun _ => 1) d ≤ 1000 := fun d hd => by
  obtain ⟨i, hi, rfl⟩ := List.getElem_of_mem hd
  have sm := S.sm i _ (List.getElem?_eq_getElem hi)
  exact ⟨okD_mono (fun i p e => by simp at e) _ (fun x hx => hx) sm.ok, by have := sm.dp; omega, by have := sm.w1 (rwt l) (fun _ => 1); omega⟩
end
end DL

set_option Elab.async false
set_option linter.all false
set_option maxRecDepth 100000
set_option maxHeartbeats 1000000
namespace DL
open PySem
open KS (rise tLt sLt iLt ord_tup ord_str ord_int mem_rise Rising rising_rise rising_one sortK sortK_is Up)
theorem sort_rise {L : List Mk} (nd : L.Nodup) : sortK tLt L = rise tLt L :=
  sortK_is ord_tup ((List.perm_ext_iff_of_nodup (KS.rising_nodup ord_tup (rising_rise ord_tup L)) nd).mpr fun a => mem_rise ord_tup) (ris_up ord_tup (rising_rise ord_tup L))
def lessM (X Y : List Mk) : Bool := X.all fun m => decide (m ∈ Y)
theorem less_iff {X Y : List Mk} : lessM X Y = true ↔ ∀ m ∈ X, m ∈ Y := by
  unfold lessM
  simp
section
variable {X Y : List Mk} (iX : ∀ m ∈ X, m ∈ allM) (iY : ∀ m ∈ Y, m ∈ allM) (lX : X.length ≤ 100) {n : Nat}
include iX iY
theorem in_lm {m : Mk} (hm : m ∈ X) : qIn (unX m) (lm Y) = .ok (.bl (decide (m ∈ Y))) := qIn_lm (sok_all m (iX m hm)) iY
include lX
theorem is_less_T (hn : 2 ≤ n) : tv (csem n .f_is_less) [lm X, lm Y] = .ok (.bl (lessM X Y)) := by
  obtain ⟨m, rfl⟩ : ∃ m, n = m + 2 := ⟨n - 2, by omega⟩
  refine cq_f_is_less (t_run rfl ?_) (by simp)
  unfold ct_f_is_less
  refine t_ret ?_
  have c := t_lcA (τ := [some (lm X), some (lm Y), none]) (it := tiAny (tVar 0)) (g := hN 2) (e := tBin qIn (tVar 2) (tVar 1)) (vs := [2])
    (l := X) (m := unX) (f := fun q => T.bl (decide (q ∈ Y))) (ti_any (l := lm X) rfl (.inl rfl)) (fun q hq => ⟨_, rfl, by
      have e := in_lm iX iY hq
      simp [twipe, e]⟩) (by omega)
  have e2 : (X.map fun q => T.bl (decide (q ∈ Y))) = (X.map fun q => decide (q ∈ Y)).map T.bl := by rw [List.map_map]; rfl
  simp only [te_fn, te_cons, te_nil, List.map_cons, List.map_nil, List.cons_append, List.nil_append, List.replicate, Nat.reduceSub, List.length_cons, List.length_nil]
  rw [c, RT.bind_ok, RT.bind_ok, RT.bind_ok, e2, qAll_bls, List.all_map]
  rfl
theorem both_T (hn : 2 ≤ n) : tv (csem n .f_both_of) [lm X, lm Y] = .ok (lm (X.filter fun m => decide (m ∈ Y))) := by
  obtain ⟨m, rfl⟩ : ∃ m, n = m + 2 := ⟨n - 2, by omega⟩
  refine cq_f_both_of (t_run rfl ?_) (by simp)
  unfold ct_f_both_of
  refine t_ret ?_
  exact t_lc (τ := [some (lm X), some (lm Y), none]) (it := tiAny (tVar 0)) (g := hN 2) (c := tTest (tBin qIn (tVar 2) (tVar 1))) (e := tVar 2) (vs := [2])
    (l := X) (m := unX) (k := fun q => decide (q ∈ Y)) (f := unX) (ti_any (l := lm X) rfl (.inl rfl)) (fun q hq => ⟨_, rfl, by
      have e := in_lm iX iY hq
      simp [twipe, e], fun _ => by simp [twipe]⟩) (by omega)
theorem joined_T (lY : Y.length ≤ 100) (hn : 4 ≤ n) : tv (csem n .f_joined) [lm X, lm Y] = .ok (lm (rise tLt (X ++ Y))) := by
  obtain ⟨m, rfl⟩ : ∃ m, n = m + 2 := ⟨n - 2, by omega⟩
  refine cq_f_joined (t_run rfl ?_) (by simp)
  unfold ct_f_joined
  refine t_ret ?_
  have on := once_T (n := m + 1) (l := X ++ Y) (fun q hq => (List.mem_append.mp hq).elim (iX q) (iY q)) (by omega)
  have ad : qAdd (lm X) (lm Y) = .ok (lm (X ++ Y)) := by
    unfold lm
    rw [q_addL, if_pos (okB_of (by simp; omega)), List.map_append]
  have on' : tv (csem (m + 1) .f_once) [lm (X ++ Y)] = .ok (lm (rise tLt (X ++ Y))) := on
  simp [ad, on']
end
def everyM (hs : List Str) : List Mk := ([mA, mS] ++ hs.map mD) ++ abcd.flatMap fun x => [mR x, mW x]
def drawnK (ns : List Int) (t : Int) (hs : List Str) : List Mk := ((everyM hs).zipIdx.filter fun p => decide (drw ns (t + (p.2 : Nat)) 3 = 0)).map (·.1)
theorem drawnK_sub {ns : List Int} {t : Int} {hs : List Str} : (drawnK ns t hs).Sublist (everyM hs) := by
  have h1 : (((everyM hs).zipIdx.filter fun p => decide (drw ns (t + (p.2 : Nat)) 3 = 0)).map (·.1)).Sublist ((everyM hs).zipIdx.map (·.1)) := List.Sublist.map _ List.filter_sublist
  rwa [List.zipIdx_map_fst] at h1
theorem num_zip : ∀ (l : List Mk) (k : Nat), numT k (l.map unX) = (l.zipIdx k).map fun p => .tup [.int (p.2 : Nat), unX p.1]
  | [], k => rfl
  | m :: l, k => by
    simp only [List.map_cons, numT, List.zipIdx_cons, num_zip l (k + 1)]
noncomputable def kindU : TSDen := tsAsg (tBin qAdd (tVar 3) (tLst (tCons (tTup (tCons (tC (.str "read")) (tCons (tVar 4) tNil))) (tCons (tTup (tCons (tC (.str "write")) (tCons (tVar 4) tNil))) tNil)))) (hN 3)
theorem kind_G (n : Nat) {ns : List Int} {t : Int} (hl : ns.length ≤ 63) (ht : 0 ≤ t) {hs : List Str} (hE : (∀ m ∈ everyM hs, m ∈ allM) ∧ (everyM hs).Nodup ∧ (everyM hs).length ≤ 12 ∧ hs.length ≤ 2) (hn : 10 ≤ n := by omega) : ∃ K, tv (csem n .f__law_kind) [tscr ns, .int t, .tup (hs.map T.str)] = .ok (lm K) ∧ Rising tLt K ∧ (∀ m ∈ K, m ∈ everyM hs) ∧ K.length ≤ 12 := by
  obtain ⟨m, rfl⟩ : ∃ m, n = m + 2 := ⟨n - 2, by omega⟩
  obtain ⟨iE, nE, lE, lh⟩ := hE
  have nK : (drawnK ns t hs).Nodup := nE.sublist drawnK_sub
  have lK : (drawnK ns t hs).length ≤ 12 := Nat.le_trans drawnK_sub.length_le lE
  have iK : ∀ m ∈ drawnK ns t hs, m ∈ everyM hs := fun m hm => drawnK_sub.mem hm
  refine ⟨rise tLt (drawnK ns t hs), ?_, rising_rise ord_tup _, fun m hm => iK m ((mem_rise ord_tup).mp hm), ?_⟩
  · refine cq_f__law_kind (t_run rfl ?_) (by simp)
    unfold ct_f__law_kind
    have c0 := t_lcA (τ := [some (tscr ns), some (.int t), some (.tup (hs.map T.str)), none, none, none, none, none]) (it := tiAny (tVar 2)) (g := hN 5) (e := tTup (tCons (tC (.str "do")) (tCons (tVar 5) tNil))) (vs := [5])
      (l := hs) (m := T.str) (f := fun x => unX (mD x)) (ti_any (l := .tup (hs.map T.str)) rfl (.inr (.inl rfl))) (fun x hx => ⟨_, rfl, by
        simp only [te_tup, te_cons, te_nil, te_C, twipe, List.foldl_cons, List.foldl_nil, List.set_cons_succ, List.set_cons_zero]
        rw [te_V (t := .str x) rfl]
        simp only [RT.bind_ok, List.length_cons, List.length_nil, Nat.zero_add, Nat.reduceAdd, okB_of (n := 2) (by decide), if_true]
        rfl⟩) (by omega)
    refine t_asg (t := lm ([mA, mS] ++ hs.map mD)) ?_ rfl ?_
    · simp only [te_bin, te_lst, te_tup, te_cons, te_nil, te_C, List.map_cons, List.map_nil, List.cons_append, List.nil_append, List.replicate, Nat.reduceSub, List.length_cons, List.length_nil]
      rw [c0]
      simp only [RT.bind_ok, List.length_cons, List.length_nil, Nat.zero_add, Nat.reduceAdd, okB_of (n := 1) (by decide), okB_of (n := 2) (by decide), if_true, q_addL]
      rw [if_pos (okB_of (by simp; omega))]
      unfold lm
      simp only [List.map_cons, List.map_map]
      rfl
    simp only [List.map_cons, List.map_nil, List.cons_append, List.nil_append, List.replicate, Nat.reduceSub, List.set_cons_succ, List.set_cons_zero, List.length_cons, List.length_nil]
    have loop := t_forK (I := fun j τ => ∃ z4, τ = [some (tscr ns), some (.int t), some (.tup (hs.map T.str)), some (lm (([mA, mS] ++ hs.map mD) ++ (abcd.take j).flatMap fun x => [mR x, mW x])), z4, none, none, none]) (g := hN 4) (u := kindU) (ts := abcd.map T.str) (τ := [some (tscr ns), some (.int t), some (.tup (hs.map T.str)), some (lm ([mA, mS] ++ hs.map mD)), none, none, none, none]) 0 (fun j u hu τ hI => by
      simp only [Nat.zero_add] at hI ⊢
      obtain ⟨z4, rfl⟩ := hI
      obtain ⟨x, hx, rfl⟩ := map_get hu
      refine ⟨_, rfl, ?_⟩
      have tk : abcd.take (j + 1) = abcd.take j ++ [x] := by rw [List.take_succ, hx]; rfl
      have ltk : (abcd.take j).length ≤ 4 := by rw [List.length_take]; simp [abcd]; omega
      unfold kindU
      refine nx_end (t_asg1 (t := lm (([mA, mS] ++ hs.map mD) ++ (abcd.take (j + 1)).flatMap fun x => [mR x, mW x])) ?_ rfl) ⟨_, rfl⟩
      simp only [te_bin, te_lst, te_tup, te_cons, te_nil, te_C, List.set_cons_succ, List.set_cons_zero]
      rw [te_V (t := lm (([mA, mS] ++ hs.map mD) ++ (abcd.take j).flatMap fun x => [mR x, mW x])) rfl, te_V (t := .str x) rfl]
      simp only [RT.bind_ok, List.length_cons, List.length_nil, Nat.zero_add, Nat.reduceAdd, okB_of (n := 2) (by decide), if_true]
      unfold lm
      rw [q_addL, if_pos (okB_of (by
        have : ∀ l : List Str, (l.flatMap fun x => [mR x, mW x]).length = 2 * l.length := fun l => by
          induction l with
          | nil => rfl
          | cons a l ih => simp only [List.flatMap_cons, List.length_append, ih, List.length_cons, List.length_nil]; omega
        have h2 := this (abcd.take j)
        simp only [List.length_append, List.length_map, List.length_cons, List.length_nil, h2]
        omega))]
      rw [tk, List.flatMap_append, ← List.append_assoc ([mA, mS] ++ hs.map mD), List.map_append (l₁ := ([mA, mS] ++ hs.map mD) ++ _)]
      rfl) ⟨none, by simp⟩
    obtain ⟨τ', eo, z4, rfl⟩ := loop
    have l4 : (abcd.map T.str).length = 4 := rfl
    refine t_seq (t_for (ts := abcd.map T.str) (by
      show RT.ok (signsT "abcd") = _
      rw [signs_abcd]) eo) ?_
    have e4 : abcd.take (0 + (abcd.map T.str).length) = abcd := rfl
    rw [e4]
    refine t_ret ?_
    have c := t_lc (τ := [some (tscr ns), some (.int t), some (.tup (hs.map T.str)), some (lm (everyM hs)), z4, none, none, none]) (it := tiEnumA (tVar 3)) (g := hT 2 (hsCons (hN 6) (hsCons (hN 7) hsNil))) (c := tTest (tBin qEq (tCall 3 (tv (csem (m + 1) .f__law_drawn)) (tCons (tVar 0) (tCons (tBin qAdd (tVar 1) (tVar 6)) (tCons (tC (.int 3)) tNil)))) (tC (.int 0)))) (e := tVar 7) (vs := [6, 7])
      (l := (everyM hs).zipIdx) (m := fun p => .tup [.int (p.2 : Nat), unX p.1]) (k := fun p => decide (drw ns (t + (p.2 : Nat)) 3 = 0)) (f := fun p => unX p.1) (by
        show RT.ok (numT 0 ((everyM hs).map unX)) = _
        rw [num_zip]) (fun p hp => ⟨_, rfl, by
        have e := drawn_T (m + 1) ns (t + (p.2 : Nat)) 3 (by omega) (by decide) hl
        simp [twipe, e], fun _ => by simp [twipe]⟩) (by simp; omega)
    have e5 : ((everyM hs).zipIdx.filter fun p => decide (drw ns (t + (p.2 : Nat)) 3 = 0)).map (fun p => unX p.1) = (drawnK ns t hs).map unX := by
      unfold drawnK
      rw [List.map_map]
      rfl
    rw [e5] at c
    show (tFn qSorted _ [some (tscr ns), some (.int t), some (.tup (hs.map T.str)), some (lm (everyM hs)), z4, none, none, none]) = _
    simp only [te_fn, te_cons, te_nil]
    rw [c, RT.bind_ok, RT.bind_ok, RT.bind_ok]
    have qs := qSorted_lm (l := drawnK ns t hs) (fun m hm => iE m (iK m hm)) (by omega)
    rw [sort_rise nK] at qs
    exact qs
  · have := KS.nodup_len (rise tLt (drawnK ns t hs)) (everyM hs) (KS.rising_nodup ord_tup (rising_rise ord_tup _)) fun z hz => iK z ((mem_rise ord_tup).mp hz)
    omega
theorem kind_T (n : Nat) {ns : List Int} {t : Int} (hl : ns.length ≤ 63) (ht : 0 ≤ t) {hs : List Str} (hh : hs ∈ ([[], ["f"], ["f", "g1"]] : List (List Str))) (hn : 10 ≤ n := by omega) : ∃ K, tv (csem n .f__law_kind) [tscr ns, .int t, .tup (hs.map T.str)] = .ok (lm K) ∧ Rising tLt K ∧ (∀ m ∈ K, m ∈ everyM hs) ∧ K.length ≤ 12 := by
  have ev : ∀ hs ∈ ([[], ["f"], ["f", "g1"]] : List (List Str)), (∀ m ∈ everyM hs, m ∈ allM) ∧ (everyM hs).Nodup ∧ (everyM hs).length ≤ 12 ∧ hs.length ≤ 2 := by decide +kernel
  exact kind_G n hl ht (ev hs hh) hn
section
end
theorem eqNilM {L : List Mk} (h : ∀ m ∈ L, m ∈ allM) : qEq (lm L) (.lst []) = .ok (.bl (decide (L = []))) := by
  rw [qEq_fine (fine_lm h) (FineK.lst (k := 37) (.nil _))]
  congr 2
  classical
  exact decide_eq_decide.mpr ⟨fun h => by unfold lm at h; injection h with h; exact List.map_eq_nil_iff.mp h, fun h => by rw [h]; rfl⟩
theorem eqM {L K : List Mk} (h : ∀ m ∈ L, m ∈ allM) (h2 : ∀ m ∈ K, m ∈ allM) : qEq (lm L) (lm K) = .ok (.bl (decide (L = K))) := by
  rw [qEq_fine (fine_lm h) (fine_lm h2)]
  congr 2
  classical
  refine decide_eq_decide.mpr ⟨fun h => ?_, fun h => by rw [h]⟩
  unfold lm at h
  injection h with h
  exact (List.map_inj_right (fun a b e => unX_inj e)).mp h
end DL

set_option Elab.async false
set_option linter.all false
set_option maxRecDepth 100000
set_option maxHeartbeats 1000000
namespace DL
open PySem
open KS (rise tLt ord_tup mem_rise Rising)
section
end
end DL

set_option Elab.async false
set_option linter.all false
set_option maxRecDepth 100000
set_option maxHeartbeats 1000000
namespace DL
open PySem
open KS (rise tLt ord_tup mem_rise Rising)
section
end
section
section
end
end
end DL

set_option Elab.async false
set_option linter.all false
set_option maxRecDepth 100000
set_option maxHeartbeats 1000000
namespace DL
open PySem
section
end
section
end
end DL

set_option Elab.async false
set_option linter.all false
set_option maxRecDepth 100000
set_option maxHeartbeats 1000000
namespace DL
open PySem
section
end
section
end
end DL

set_option Elab.async false
set_option linter.all false
set_option maxRecDepth 100000
set_option maxHeartbeats 1000000
namespace DL
open PySem
open KS (rise tLt ord_tup mem_rise Rising)
section
end
theorem every_iff {hs : List Str} {m : Mk} : m ∈ everyM hs ↔ m = mA ∨ m = mS ∨ (∃ x, x ∈ hs ∧ m = mD x) ∨ ∃ x, x ∈ abcd ∧ (m = mR x ∨ m = mW x) := by
  unfold everyM
  simp only [List.mem_append, List.mem_cons, List.not_mem_nil, or_false, List.mem_flatMap, List.mem_map]
  constructor
  · rintro (((h | h) | ⟨x, hx, rfl⟩) | ⟨x, hx, h⟩)
    · exact .inl h
    · exact .inr (.inl h)
    · exact .inr (.inr (.inl ⟨x, hx, rfl⟩))
    · exact .inr (.inr (.inr ⟨x, hx, h⟩))
  · rintro (h | h | ⟨x, hx, rfl⟩ | ⟨x, hx, h⟩)
    · exact .inl (.inl (.inl h))
    · exact .inl (.inl (.inr h))
    · exact .inl (.inr ⟨x, hx, rfl⟩)
    · exact .inr ⟨x, hx, h⟩
section
variable {hs : List Str} (h3 : ∀ x ∈ hs, kd x = 3)
include h3
theorem pairsT_map : ∀ (xs ys : List Mk), pairsT (xs.map unX) (ys.map unX) = (xs.zip ys).map fun p => .tup [unX p.1, unX p.2]
  | [], _ => by simp [pairsT]
  | _ :: _, [] => by simp [pairsT]
  | x :: xs, y :: ys => by simp [pairsT, pairsT_map xs ys]
theorem rise_zip {K : List Mk} (h : Rising tLt K) : ∀ p ∈ K.zip (K.drop 1), tLt p.1 p.2 = true := by
  induction K with
  | nil => intro p hp; simp at hp
  | cons a l ih =>
    intro p hp
    cases h with
    | cons ha hl =>
      cases l with
      | nil => simp at hp
      | cons b r =>
        simp only [List.drop_succ_cons, List.drop_zero, List.zip_cons_cons, List.mem_cons] at hp
        rcases hp with rfl | hp
        · exact ha b List.mem_cons_self
        · exact ih hl p (by simpa using hp)
end
end DL

set_option Elab.async false
set_option linter.all false
set_option maxRecDepth 100000
set_option maxHeartbeats 1000000
namespace DL
open PySem
open KS (rise tLt ord_tup mem_rise Rising)
structure KGo (rs : List Rule) (KT : List (List Mk)) : Prop where
  len : KT.length = rs.length
  at_ : ∀ (i : Nat) (r : Rule) (K : List Mk), rs[i]? = some r → KT[i]? = some K → Rising tLt K ∧ ∀ m ∈ K, m ∈ everyM r.hs
section
variable {rs : List Rule} {KT : List (List Mk)}
theorem KGo.get (G : KGo rs KT) {i : Nat} {r : Rule} (h : rs[i]? = some r) : ∃ K, KT[i]? = some K ∧ Rising tLt K ∧ ∀ m ∈ K, m ∈ everyM r.hs := by
  have li : i < KT.length := by rw [G.len]; exact get_lt h
  exact ⟨KT[i], List.getElem?_eq_getElem li, G.at_ i r _ h (List.getElem?_eq_getElem li)⟩
theorem every_okK {ns hs : List Str} (h3 : ∀ x ∈ hs, kd x = 3) {m : Mk} (h : m ∈ everyM hs) : okM (ns ++ hs) m := by
  rcases every_iff.mp h with e | e | ⟨x, hx, e⟩ | ⟨x, hx, e⟩
  · exact .inr (.inl e)
  · exact .inl e
  · exact .inr (.inr (.inr ⟨x, List.mem_append_right _ hx, h3 x hx, e⟩))
  · exact .inr (.inr (.inl ⟨x, .inr hx, e⟩))
section
end
end
section
end
end DL

set_option Elab.async false
set_option linter.all false
set_option maxRecDepth 100000
set_option maxHeartbeats 1000000
namespace DL
open PySem
open KS (rise tLt ord_tup mem_rise Rising)
end DL

set_option Elab.async false
set_option linter.all false
set_option maxRecDepth 100000
set_option maxHeartbeats 1000000
namespace DL
open PySem
open KS (rise tLt ord_tup mem_rise Rising)
def isMb (hs : List Str) : T → Bool
  | .tup [.str w] => decide (w = "say") || decide (w = "ask")
  | .tup [.str w, .str x] => if w = ("do" : Str) then decide (x ∈ hs) else (decide (w = "read") || decide (w = "write")) && decide (x ∈ abcd)
  | _ => false
def XS : List Str := ["", "a", "b", "c", "d", "x", "p", "f", "g1", "x1", "x1234", "read", "ab", "ask", "say", "do", "write", "name", "xx"]
def wordX (x : Str) : Bool := decide (x ∈ (["f", "g1"] : List Str))
section
variable {c : CF → TFn} {o o2 : CF → OFn}
theorem isword_X : ∀ x ∈ XS, trun 2 3 (ct_f_is_word c o o2) [.str x, .str "fg"] = .ok (.bl (wordX x)) := fun x hx => by
  simp only [XS, List.mem_cons, List.not_mem_nil, or_false] at hx
  rcases hx with rfl | rfl | rfl | rfl | rfl | rfl | rfl | rfl | rfl | rfl | rfl | rfl | rfl | rfl | rfl | rfl | rfl | rfl | rfl <;> rfl
end
theorem flat_strs : ∀ ws : List Str, (ws.map T.str).all flatT = true
  | [] => rfl
  | _ :: ws => flat_strs ws
theorem any_strs (x : Str) : ∀ ws : List Str, ((ws.map T.str).any fun z => eqFT z (.str x)) = decide (x ∈ ws)
  | [] => by simp
  | w :: ws => by
    rw [List.map_cons, List.any_cons, any_strs x ws]
    have e : eqFT (.str w) (.str x) = decide (w = x) := rfl
    rw [e]
    by_cases h : w = x
    · simp [h]
    · have : x ≠ w := fun z => h z.symm
      simp [h, this]
theorem qIn_flat (x : Str) (ws : List Str) : qIn (.str x) (.tup (ws.map T.str)) = .ok (.bl (decide (x ∈ ws))) := by
  have e : inT (.str x) (.tup (ws.map T.str)) = some (decide (x ∈ ws)) := by
    show inS (.str x) (.tup (ws.map T.str)) = _
    have i : itsT (.tup (ws.map T.str)) = some (ws.map T.str) := rfl
    unfold inS
    simp only [i, flat_strs, any_strs]
    rw [if_pos ⟨rfl, trivial⟩]
  unfold qIn
  rw [e]
theorem shelf_X : ∀ x ∈ XS, (∃ n : Int, qLen [.str x] = .ok (.int n) ∧ ((n = 1 ∧ qIn (.str x) (.str "abcd") = .ok (.bl (decide (x ∈ abcd)))) ∨ (n ≠ 1 ∧ decide (x ∈ abcd) = false))) := fun x hx => by
  simp only [XS, List.mem_cons, List.not_mem_nil, or_false] at hx
  rcases hx with rfl | rfl | rfl | rfl | rfl | rfl | rfl | rfl | rfl | rfl | rfl | rfl | rfl | rfl | rfl | rfl | rfl | rfl | rfl <;> first
    | exact ⟨1, rfl, .inl ⟨rfl, rfl⟩⟩
    | exact ⟨0, rfl, .inr ⟨by decide, rfl⟩⟩
    | exact ⟨2, rfl, .inr ⟨by decide, rfl⟩⟩
    | exact ⟨3, rfl, .inr ⟨by decide, rfl⟩⟩
    | exact ⟨4, rfl, .inr ⟨by decide, rfl⟩⟩
    | exact ⟨5, rfl, .inr ⟨by decide, rfl⟩⟩
section
variable {hs : List Str} {n : Nat}
def tupB : T → Bool
  | .tup _ => true
  | _ => false
def strB : T → Bool
  | .str _ => true
  | _ => false
def lstB : T → Bool
  | .lst _ => true
  | .seq _ => true
  | _ => false
theorem isMb3 (hs : List Str) (a b c : T) (r : List T) : isMb hs (.tup (a :: b :: c :: r)) = false := by cases a <;> cases b <;> rfl
theorem isMb1 (hs : List Str) (a : T) (r : List T) (h : strB a = false) : isMb hs (.tup (a :: r)) = false := by
  cases a <;> first | (cases r with | nil => rfl | cons b r => (cases r with | nil => (cases b <;> rfl) | cons _ _ => exact isMb3 _ _ _ _ _)) | cases h
theorem isMb2 (hs : List Str) (w : Str) (b : T) (h : strB b = false) : isMb hs (.tup [.str w, b]) = false := by cases b <;> first | rfl | cases h
theorem kt : ∀ t : T, L2.kitB (tyT t) "tuple" = some (tupB t)
  | .non => (by decide +kernel : L2.kitB "NoneType" "tuple" = some false)
  | .bl _ => (by decide +kernel : L2.kitB "bool" "tuple" = some false)
  | .int _ => (by decide +kernel : L2.kitB "int" "tuple" = some false)
  | .str _ => (by decide +kernel : L2.kitB "str" "tuple" = some false)
  | .tup _ => (by decide +kernel : L2.kitB "tuple" "tuple" = some true)
  | .seq _ => (by decide +kernel : L2.kitB "list" "tuple" = some false)
  | .lst _ => (by decide +kernel : L2.kitB "list" "tuple" = some false)
  | .dct _ => (by decide +kernel : L2.kitB "dict" "tuple" = some false)
theorem kstr : ∀ t : T, L2.kitB (tyT t) "str" = some (strB t)
  | .non => (by decide +kernel : L2.kitB "NoneType" "str" = some false)
  | .bl _ => (by decide +kernel : L2.kitB "bool" "str" = some false)
  | .int _ => (by decide +kernel : L2.kitB "int" "str" = some false)
  | .str _ => (by decide +kernel : L2.kitB "str" "str" = some true)
  | .tup _ => (by decide +kernel : L2.kitB "tuple" "str" = some false)
  | .seq _ => (by decide +kernel : L2.kitB "list" "str" = some false)
  | .lst _ => (by decide +kernel : L2.kitB "list" "str" = some false)
  | .dct _ => (by decide +kernel : L2.kitB "dict" "str" = some false)
theorem klst : ∀ t : T, L2.kitB (tyT t) "list" = some (lstB t)
  | .non => (by decide +kernel : L2.kitB "NoneType" "list" = some false)
  | .bl _ => (by decide +kernel : L2.kitB "bool" "list" = some false)
  | .int _ => (by decide +kernel : L2.kitB "int" "list" = some false)
  | .str _ => (by decide +kernel : L2.kitB "str" "list" = some false)
  | .tup _ => (by decide +kernel : L2.kitB "tuple" "list" = some false)
  | .seq _ => (by decide +kernel : L2.kitB "list" "list" = some true)
  | .lst _ => (by decide +kernel : L2.kitB "list" "list" = some true)
  | .dct _ => (by decide +kernel : L2.kitB "dict" "list" = some false)
theorem isi_of {p : TDen} {τ : TEnv} {t : T} {k : String} {b : Bool} (h : p τ = .ok t) (hk : L2.kitB (tyT t) k = some b) : tIsi k p τ = .ok (.bl b) := by
  unfold tIsi
  rw [h, RT.bind_ok, hk]
theorem sayask (w : Str) : qIn (.str w) (.tup [.str "say", .str "ask"]) = .ok (.bl (decide (w ∈ (["say", "ask"] : List Str)))) := qIn_flat w ["say", "ask"]
theorem readwrite (w : Str) : qIn (.str w) (.tup [.str "read", .str "write"]) = .ok (.bl (decide (w ∈ (["read", "write"] : List Str)))) := qIn_flat w ["read", "write"]
def okX (t : T) : Prop := ∀ w x, t = .tup [.str w, .str x] → x ∈ XS
theorem is_mark_any (sub : ∀ x ∈ hs, x ∈ (["f", "g1"] : List Str)) {t : T} (hx : okX t) (hn : 4 ≤ n) : tv (csem n .f_is_mark) [t, tstrs hs] = .ok (.bl (isMb hs t)) := by
  obtain ⟨n, rfl⟩ : ∃ j, n = j + 2 := ⟨n - 2, by omega⟩
  refine cq_f_is_mark (t_run rfl ?_) (by simp)
  unfold ct_f_is_mark
  simp only [List.map_cons, List.map_nil, List.cons_append, List.nil_append, Nat.sub_self, List.replicate, List.append_nil]
  have i0 : tIsi "tuple" (tVar 0) [some t, some (tstrs hs)] = .ok (.bl (tupB t)) := isi_of rfl (kt t)
  have no (u v : TSDen) : (∀ ts, t ≠ .tup ts) → tsSeq (tsIf (tbOr (tbNot (tTest (tIsi "tuple" (tVar 0)))) (tbOr (tTest (tBin qEq (tFn qLen (tCons (tVar 0) tNil)) (tC (.int 0)))) (tbNot (tTest (tIsi "str" (tBin qGet (tVar 0) (tC (.int 0)))))))) (tsRet (tC (.bl false))) u) v [some t, some (tstrs hs)] = .ok (.rt (.bl false)) := fun h => by
    refine t_seqR (t_if (b := true) ?_ ?_)
    · have e : tupB t = false := by cases t <;> first | rfl | exact absurd rfl (h _)
      rw [e] at i0
      simp only [te_or, te_not, te_test, i0, RT.bind_ok, asB_bl]
      rfl
    · rw [if_pos rfl]; exact t_ret rfl
  cases t with
  | tup ts =>
    cases ts with
    | nil =>
      refine t_seqR (t_if (b := true) ?_ ?_)
      · simp only [te_or, te_not, te_test, i0, RT.bind_ok, asB_bl]
        rfl
      · rw [if_pos rfl]; exact t_ret rfl
    | cons a r =>
      have g0 : (tBin qGet (tVar 0) (tC (.int 0))) [some (.tup (a :: r)), some (tstrs hs)] = .ok a := by
        simp only [te_bin, te_C]
        rw [te_V (t := .tup (a :: r)) rfl]
        simp
      have l0 : tFn qLen (tCons (tVar 0) tNil) [some (.tup (a :: r)), some (tstrs hs)] = .ok (.int ((r.length + 1 : Nat) : Int)) := by
        simp only [te_fn, te_cons, te_nil]
        rw [te_V (t := .tup (a :: r)) rfl]
        simp
      have q0 : tTest (tBin qEq (tFn qLen (tCons (tVar 0) tNil)) (tC (.int 0))) [some (.tup (a :: r)), some (tstrs hs)] = .ok false := by
        rw [te_test, te_bin, l0, RT.bind_ok, te_C, RT.bind_ok, q_eqI, RT.bind_ok, asB_bl, decide_eq_false (by omega)]
      have i1 := isi_of g0 (kstr a)
      by_cases ha : ∃ w, a = .str w
      case neg =>
        have e : strB a = false := by cases a <;> first | rfl | exact absurd ⟨_, rfl⟩ ha
        rw [isMb1 hs a r e]
        rw [e] at i1
        refine t_seqR (t_if (b := true) ?_ ?_)
        · simp only [te_or, te_not, te_test, i0, RT.bind_ok, asB_bl] at q0 ⊢
          rw [i1]
          simp only [Bool.not_true, Bool.false_eq_true, if_false, q0, RT.bind_ok, asB_bl]
          rfl
        · rw [if_pos rfl]; exact t_ret rfl
      case pos =>
        obtain ⟨w, rfl⟩ := ha
        refine t_skip ?_ ?_
        · simp only [te_or, te_not, te_test, i0, RT.bind_ok, asB_bl] at q0 ⊢
          rw [i1]
          simp only [Bool.not_true, Bool.false_eq_true, if_false, q0, RT.bind_ok, asB_bl]
          rfl
        have sa : tTest (tBin qIn (tBin qGet (tVar 0) (tC (.int 0))) (tTup (tCons (tC (.str "say")) (tCons (tC (.str "ask")) tNil)))) [some (.tup (.str w :: r)), some (tstrs hs)] = .ok (decide (w ∈ (["say", "ask"] : List Str))) := by
          rw [te_test, te_bin, g0, RT.bind_ok]
          simp only [te_tup, te_cons, te_nil, te_C, RT.bind_ok, List.length_cons, List.length_nil, Nat.zero_add, Nat.reduceAdd, okB_2, if_true, sayask]
          rfl
        by_cases hw : w ∈ (["say", "ask"] : List Str)
        · rw [decide_eq_true hw] at sa
          refine t_seqR (t_if (b := true) sa ?_)
          rw [if_pos rfl]
          have ev : isMb hs (.tup (.str w :: r)) = decide (((r.length + 1 : Nat) : Int) = 1) := by
            simp only [List.mem_cons, List.not_mem_nil, or_false] at hw
            cases r with
            | nil => rcases hw with rfl | rfl <;> rfl
            | cons b r =>
              rw [decide_eq_false (by simp; omega)]
              cases r with
              | nil => rcases hw with rfl | rfl <;> cases b <;> rfl
              | cons _ _ => exact isMb3 _ _ _ _ _
          rw [ev]
          refine t_ret ?_
          rw [te_bin, l0, RT.bind_ok, te_C, RT.bind_ok, q_eqI]
        · rw [decide_eq_false hw] at sa
          refine t_skip sa ?_
          have l2 : tTest (tBin qNe (tFn qLen (tCons (tVar 0) tNil)) (tC (.int 2))) [some (.tup (.str w :: r)), some (tstrs hs)] = .ok (!decide (((r.length + 1 : Nat) : Int) = 2)) := by
            rw [te_test, te_bin, l0, RT.bind_ok, te_C, RT.bind_ok, q_neI, RT.bind_ok, asB_bl]
          by_cases hr : r.length = 1
          case neg =>
            have ef : isMb hs (.tup (.str w :: r)) = false := by
              simp only [List.mem_cons, List.not_mem_nil, or_false, not_or] at hw
              match r, hr with
              | [], _ => simp [isMb, hw.1, hw.2]
              | _ :: _ :: _, _ => exact isMb3 _ _ _ _ _
            rw [ef]
            refine t_seqR (t_if (b := true) ?_ (by rw [if_pos rfl]; exact t_ret rfl))
            rw [te_or, l2, decide_eq_false (by omega)]
            rfl
          case pos =>
            obtain ⟨b, rfl⟩ : ∃ b, r = [b] := List.length_eq_one_iff.mp hr
            have g1 : (tBin qGet (tVar 0) (tC (.int 1))) [some (.tup [.str w, b]), some (tstrs hs)] = .ok b := by
              simp only [te_bin, te_C]
              rw [te_V (t := .tup [.str w, b]) rfl]
              simp
            have i2 := isi_of g1 (kstr b)
            have l2' : tTest (tBin qNe (tFn qLen (tCons (tVar 0) tNil)) (tC (.int 2))) [some (.tup [.str w, b]), some (tstrs hs)] = .ok false := by rw [l2]; rfl
            by_cases hb : ∃ x, b = .str x
            case neg =>
              have e : strB b = false := by cases b <;> first | rfl | exact absurd ⟨_, rfl⟩ hb
              rw [isMb2 hs w b e]
              rw [e] at i2
              refine t_seqR (t_if (b := true) ?_ (by rw [if_pos rfl]; exact t_ret rfl))
              rw [te_or, l2', RT.bind_ok, if_neg (by decide), te_not, te_test, i2, RT.bind_ok, asB_bl]
              rfl
            case pos =>
              obtain ⟨x, rfl⟩ := hb
              have xs := hx w x rfl
              refine t_skip ?_ ?_
              · rw [te_or, l2', RT.bind_ok, if_neg (by decide), te_not, te_test, i2, RT.bind_ok, asB_bl]
                rfl
              have dd : tTest (tBin qEq (tBin qGet (tVar 0) (tC (.int 0))) (tC (.str "do"))) [some (.tup [.str w, .str x]), some (tstrs hs)] = .ok (decide (w = "do")) := by
                rw [te_test, te_bin, g0, RT.bind_ok, te_C, RT.bind_ok, q_eqS, RT.bind_ok, asB_bl]
              by_cases hd : w = "do"
              · rw [decide_eq_true hd] at dd
                refine t_seqR (t_if (b := true) dd ?_)
                rw [if_pos rfl]
                have ev : isMb hs (.tup [.str w, .str x]) = decide (x ∈ hs) := by simp [isMb, hd]
                rw [ev]
                refine t_ret ?_
                have iw : tv (csem (n + 1) .f_is_word) [.str x, .str "fg"] = .ok (.bl (wordX x)) := by
                  obtain ⟨n, rfl⟩ : ∃ j, n = j + 1 := ⟨n - 1, by omega⟩
                  exact cq_f_is_word (isword_X x xs) (by simp)
                have e1 : (tCall 2 (tv (csem (n + 1) .f_is_word)) (tCons (tBin qGet (tVar 0) (tC (.int 1))) (tCons (tC (.str "fg")) tNil))) [some (.tup [.str w, .str x]), some (tstrs hs)] = .ok (.bl (wordX x)) := by
                  rw [te_call, te_cons, g1, RT.bind_ok]
                  simp only [te_cons, te_nil, te_C, RT.bind_ok, List.length_cons, List.length_nil, Nat.zero_add, Nat.reduceAdd, if_true]
                  exact iw
                have e2 : (tBin qIn (tBin qGet (tVar 0) (tC (.int 1))) (tVar 1)) [some (.tup [.str w, .str x]), some (tstrs hs)] = .ok (.bl (decide (x ∈ hs))) := by
                  rw [te_bin, g1, RT.bind_ok, te_V (t := tstrs hs) rfl, RT.bind_ok]
                  exact qIn_flat x hs
                unfold tAndV
                rw [e1, RT.bind_ok]
                by_cases hxs : x ∈ hs
                · have : wordX x = true := decide_eq_true (sub x hxs)
                  rw [this]
                  exact e2
                · rw [decide_eq_false hxs] at e2 ⊢
                  cases wordX x
                  · rfl
                  · exact e2
              · rw [decide_eq_false hd] at dd
                refine t_skip dd ?_
                have ev : isMb hs (.tup [.str w, .str x]) = ((decide (w = "read") || decide (w = "write")) && decide (x ∈ abcd)) := by simp [isMb, hd]
                rw [ev]
                refine t_ret ?_
                have rw_ : (tBin qIn (tBin qGet (tVar 0) (tC (.int 0))) (tTup (tCons (tC (.str "read")) (tCons (tC (.str "write")) tNil)))) [some (.tup [.str w, .str x]), some (tstrs hs)] = .ok (.bl (decide (w ∈ (["read", "write"] : List Str)))) := by
                  rw [te_bin, g0, RT.bind_ok]
                  simp only [te_tup, te_cons, te_nil, te_C, RT.bind_ok, List.length_cons, List.length_nil, Nat.zero_add, Nat.reduceAdd, okB_2, if_true, readwrite]
                have ew : (decide (w = "read") || decide (w = "write")) = decide (w ∈ (["read", "write"] : List Str)) := by simp
                rw [ew]
                obtain ⟨k, lk, hk⟩ := shelf_X x xs
                have lx : (tBin qEq (tFn qLen (tCons (tBin qGet (tVar 0) (tC (.int 1))) tNil)) (tC (.int 1))) [some (.tup [.str w, .str x]), some (tstrs hs)] = .ok (.bl (decide (k = 1))) := by
                  rw [te_bin, te_fn, te_cons, g1, RT.bind_ok, te_nil, RT.bind_ok, RT.bind_ok, lk, RT.bind_ok, te_C, RT.bind_ok, q_eqI]
                unfold tAndV
                rw [rw_, RT.bind_ok]
                cases decide (w ∈ (["read", "write"] : List Str)) with
                | false => rfl
                | true =>
                  show ((tBin qEq (tFn qLen (tCons (tBin qGet (tVar 0) (tC (.int 1))) tNil)) (tC (.int 1))) _).bind _ = _
                  rw [lx, RT.bind_ok]
                  rcases hk with ⟨k1, h1⟩ | ⟨k1, h1⟩
                  · rw [decide_eq_true k1]
                    show (tBin qIn (tBin qGet (tVar 0) (tC (.int 1))) (tC (.str "abcd"))) _ = _
                    rw [te_bin, g1, RT.bind_ok, te_C, RT.bind_ok, h1]
                    rfl
                  · rw [decide_eq_false k1, h1]
                    rfl
  | _ => exact no _ _ (fun ts h => by cases h)
end
end DL

set_option Elab.async false
set_option linter.all false
set_option maxRecDepth 100000
set_option maxHeartbeats 1000000
namespace DL
open PySem
open KS (rise tLt ord_tup mem_rise Rising rising_rise rising_one)
def saB : T → Bool
  | .tup [.str w] => decide (w = "say") || decide (w = "ask")
  | _ => false
def saT : T := .tup [.tup [.str "say"], .tup [.str "ask"]]
theorem saB2 (a b : T) (r : List T) : saB (.tup (a :: b :: r)) = false := by cases a <;> rfl
theorem saB_is (hs : List Str) (t : T) (h : saB t = true) : isMb hs t = true := by
  cases t with
  | tup ts =>
    cases ts with
    | nil => cases h
    | cons a r =>
      cases r with
      | nil => cases a <;> first | exact h | cases h
      | cons b r => rw [saB2] at h; cases h
  | _ => cases h
structure GoodT (t : T) : Prop where
  x : okX t
  s : tupB t = true → qIn t saT = .ok (.bl (saB t))
  n : qNe (.lst [t]) (.lst []) = .ok (.bl true)
section
variable {hs : List Str} {n : Nat}
theorem law_mark_any {t : T} (g : GoodT t) (hn : 4 ≤ n) : tv (csem n .f__law_is_mark) [t, tstrs hs] = .ok (.bl (isMb hs t)) := by
  obtain ⟨n, rfl⟩ : ∃ j, n = j + 2 := ⟨n - 2, by omega⟩
  refine cq_f__law_is_mark (t_run rfl ?_) (by simp)
  unfold ct_f__law_is_mark
  simp only [List.map_cons, List.map_nil, List.cons_append, List.nil_append, Nat.sub_self, List.replicate, List.append_nil]
  have i0 : tIsi "tuple" (tVar 0) [some t, some (tstrs hs)] = .ok (.bl (tupB t)) := isi_of rfl (kt t)
  cases ht : tupB t with
  | false =>
    rw [ht] at i0
    have ef : isMb hs t = false := by cases t <;> first | rfl | cases ht
    rw [ef]
    refine t_seqR (t_if (b := true) ?_ (by rw [if_pos rfl]; exact t_ret i0))
    simp only [te_or, te_not, te_test, i0, RT.bind_ok, asB_bl]
    rfl
  | true =>
    rw [ht] at i0
    have qs := g.s ht
    have sT : (tTup (tCons (tTup (tCons (tC (.str "say")) tNil)) (tCons (tTup (tCons (tC (.str "ask")) tNil)) tNil))) [some t, some (tstrs hs)] = .ok saT := by
      simp only [te_tup, te_cons, te_nil, te_C, RT.bind_ok, List.length_cons, List.length_nil, Nat.zero_add, Nat.reduceAdd, okB_1, okB_2, if_true]
      rfl
    have c1 : tbOr (tbNot (tTest (tIsi "tuple" (tVar 0)))) (tTest (tBin qIn (tVar 0) (tTup (tCons (tTup (tCons (tC (.str "say")) tNil)) (tCons (tTup (tCons (tC (.str "ask")) tNil)) tNil))))) [some t, some (tstrs hs)] = .ok (saB t) := by
      rw [te_or, te_not, te_test, i0, RT.bind_ok, asB_bl, RT.bind_ok, Bool.not_true, RT.bind_ok, if_neg (by decide), te_test, te_bin, te_V (t := t) rfl, RT.bind_ok, sT, RT.bind_ok, qs, RT.bind_ok, asB_bl]
    cases hs1 : saB t with
    | true =>
      rw [hs1] at c1
      rw [saB_is hs t hs1]
      exact t_seqR (t_if (b := true) c1 (by rw [if_pos rfl]; exact t_ret i0))
    | false =>
      rw [hs1] at c1
      refine t_skip c1 ?_
      cases t with
      | tup ts =>
        have l2 : tTest (tBin qNe (tFn qLen (tCons (tVar 0) tNil)) (tC (.int 2))) [some (.tup ts), some (tstrs hs)] = .ok (!decide (((ts.length : Nat) : Int) = 2)) := by
          simp only [te_test, te_bin, te_fn, te_cons, te_nil, te_C]
          rw [te_V (t := .tup ts) rfl]
          simp only [RT.bind_ok, q_lenT, q_neI, asB_bl]
        by_cases hl : ts.length = 2
        case neg =>
          have ef : isMb hs (.tup ts) = false := by
            match ts, hl with
            | [], _ => rfl
            | [a], _ => cases a <;> first | rfl | exact hs1
            | _ :: _ :: _ :: _, _ => exact isMb3 _ _ _ _ _
          rw [ef]
          refine t_seqR (t_if (b := true) ?_ (by rw [if_pos rfl]; exact t_ret rfl))
          rw [te_or, l2, decide_eq_false (by omega)]
          rfl
        case pos =>
          obtain ⟨a, b, rfl⟩ : ∃ a b, ts = [a, b] := by
            match ts, hl with
            | [a, b], _ => exact ⟨a, b, rfl⟩
          have g0 : (tBin qGet (tVar 0) (tC (.int 0))) [some (.tup [a, b]), some (tstrs hs)] = .ok a := by
            simp only [te_bin, te_C]
            rw [te_V (t := .tup [a, b]) rfl]
            simp
          have g1 : (tBin qGet (tVar 0) (tC (.int 1))) [some (.tup [a, b]), some (tstrs hs)] = .ok b := by
            simp only [te_bin, te_C]
            rw [te_V (t := .tup [a, b]) rfl]
            simp
          have i1 := isi_of g0 (kstr a)
          have i2 := isi_of g1 (kstr b)
          have l2' : tTest (tBin qNe (tFn qLen (tCons (tVar 0) tNil)) (tC (.int 2))) [some (.tup [a, b]), some (tstrs hs)] = .ok false := by rw [l2]; rfl
          have c2 : tbOr (tTest (tBin qNe (tFn qLen (tCons (tVar 0) tNil)) (tC (.int 2)))) (tbOr (tbNot (tTest (tIsi "str" (tBin qGet (tVar 0) (tC (.int 0)))))) (tbNot (tTest (tIsi "str" (tBin qGet (tVar 0) (tC (.int 1))))))) [some (.tup [a, b]), some (tstrs hs)] = .ok (!strB a || !strB b) := by
            rw [te_or, l2', RT.bind_ok, if_neg (by decide), te_or, te_not, te_test, i1, RT.bind_ok, asB_bl, RT.bind_ok, RT.bind_ok, te_not, te_test, i2, RT.bind_ok, asB_bl, RT.bind_ok]
            cases strB a <;> rfl
          by_cases ha : strB a = true
          case neg =>
            have ha : strB a = false := by simpa using ha
            rw [isMb1 hs a [b] ha]
            rw [ha] at c2
            exact t_seqR (t_if (b := true) c2 (by rw [if_pos rfl]; exact t_ret rfl))
          case pos =>
          by_cases hb : strB b = true
          case neg =>
            have hb : strB b = false := by simpa using hb
            have ef : isMb hs (.tup [a, b]) = false := by cases a <;> first | exact isMb2 hs _ b hb | cases ha
            rw [ef]
            rw [ha, hb] at c2
            exact t_seqR (t_if (b := true) c2 (by rw [if_pos rfl]; exact t_ret rfl))
          case pos =>
          rw [ha, hb] at c2
          refine t_skip c2 ?_
          obtain ⟨w, rfl⟩ : ∃ w, a = .str w := by cases a <;> first | exact ⟨_, rfl⟩ | cases ha
          obtain ⟨x, rfl⟩ : ∃ x, b = .str x := by cases b <;> first | exact ⟨_, rfl⟩ | cases hb
          have dd : tTest (tBin qEq (tBin qGet (tVar 0) (tC (.int 0))) (tC (.str "do"))) [some (.tup [.str w, .str x]), some (tstrs hs)] = .ok (decide (w = "do")) := by
            rw [te_test, te_bin, g0, RT.bind_ok, te_C, RT.bind_ok, q_eqS, RT.bind_ok, asB_bl]
          by_cases hd : w = "do"
          · rw [decide_eq_true hd] at dd
            refine t_seqR (t_if (b := true) dd ?_)
            rw [if_pos rfl]
            have ev : isMb hs (.tup [.str w, .str x]) = decide (x ∈ hs) := by simp [isMb, hd]
            rw [ev]
            refine t_ret ?_
            rw [te_bin, g1, RT.bind_ok, te_V (t := tstrs hs) rfl, RT.bind_ok]
            exact qIn_flat x hs
          · rw [decide_eq_false hd] at dd
            refine t_skip dd ?_
            have ev : isMb hs (.tup [.str w, .str x]) = ((decide (w = "read") || decide (w = "write")) && decide (x ∈ abcd)) := by simp [isMb, hd]
            rw [ev]
            refine t_ret ?_
            have rw_ : (tBin qIn (tBin qGet (tVar 0) (tC (.int 0))) (tTup (tCons (tC (.str "read")) (tCons (tC (.str "write")) tNil)))) [some (.tup [.str w, .str x]), some (tstrs hs)] = .ok (.bl (decide (w ∈ (["read", "write"] : List Str)))) := by
              rw [te_bin, g0, RT.bind_ok]
              simp only [te_tup, te_cons, te_nil, te_C, RT.bind_ok, List.length_cons, List.length_nil, Nat.zero_add, Nat.reduceAdd, okB_2, if_true, readwrite]
            have ew : (decide (w = "read") || decide (w = "write")) = decide (w ∈ (["read", "write"] : List Str)) := by simp
            have ab : (tBin qIn (tBin qGet (tVar 0) (tC (.int 1))) (tTup (tCons (tC (.str "a")) (tCons (tC (.str "b")) (tCons (tC (.str "c")) (tCons (tC (.str "d")) tNil)))))) [some (.tup [.str w, .str x]), some (tstrs hs)] = .ok (.bl (decide (x ∈ abcd))) := by
              rw [te_bin, g1, RT.bind_ok]
              simp only [te_tup, te_cons, te_nil, te_C, RT.bind_ok, List.length_cons, List.length_nil, Nat.zero_add, Nat.reduceAdd, okB_4, if_true]
              exact qIn_flat x ["a", "b", "c", "d"]
            rw [ew]
            unfold tAndV
            rw [rw_, RT.bind_ok]
            cases decide (w ∈ (["read", "write"] : List Str)) with
            | false => rfl
            | true => exact ab
      | _ => cases ht
end
theorem rising_of {M : List Mk} (h : (M.zip (M.drop 1)).all (fun p => tLt p.1 p.2) = true) : Rising tLt M := by
  induction M with
  | nil => exact .nil
  | cons a l ih =>
    cases l with
    | nil => exact List.pairwise_singleton _ _
    | cons b r =>
      simp only [List.drop_succ_cons, List.drop_zero, List.zip_cons_cons, List.all_cons, Bool.and_eq_true] at h
      have hl := ih (by simpa using h.2)
      refine List.Pairwise.cons (fun c hc => ?_) hl
      rcases List.mem_cons.mp hc with rfl | hc
      · exact h.1
      · cases hl with
        | cons hb _ => exact ord_tup.trans _ _ _ h.1 (hb c hc)
theorem rising_dec (M : List Mk) : (M.zip (M.drop 1)).all (fun p => tLt p.1 p.2) = decide (M = rise tLt M) := by
  by_cases h : (M.zip (M.drop 1)).all (fun p => tLt p.1 p.2) = true
  · rw [h]
    exact (decide_eq_true (rise_same (rising_of h)).symm).symm
  · rw [Bool.not_eq_true] at h
    rw [h]
    refine (decide_eq_false fun e => ?_).symm
    have hr : Rising tLt M := by rw [e]; exact rising_rise ord_tup M
    have : (M.zip (M.drop 1)).all (fun p => tLt p.1 p.2) = true := by
      rw [List.all_eq_true]
      intro p hp
      exact rise_zip (hs := []) (by simp) hr p hp
    rw [h] at this
    cases this
end DL

set_option Elab.async false
set_option linter.all false
set_option maxRecDepth 100000
set_option maxHeartbeats 4000000
namespace DL
open PySem
open KS (rise tLt ord_tup mem_rise Rising rising_rise rising_one)
def oddL : List T := [.int (-1), .int 0, .int 1, .int 1008, .int 1009, .bl true, .non, .str "", .str "a", .str "x", .str "p", .str "f", .str "x1", .str "x1234", .str "read", .tup [], .lst [], .tup [.str "ask"],
  .tup [.str "name", .str "x"], .tup [.str "read", .str "a"], .tup [.str "do", .str "f"], .tup [.str "call", .int 0, .tup [], .tup []], .tup [.str "number", .bl true], .tup [.str "ask", .int 1], .int 2, .tup [.str "number", .int 0]]
def sixL (ts : List T) : List T := [.lst ts, .tup ts.dropLast, .tup (ts ++ ts.drop (ts.length - 1)), .tup (ts.drop 1), .tup ts.reverse, .tup (ts ++ ts)]
def spoils (m : Mk) : List T := sixL (m.map T.str) ++ oddL ++ (List.range m.length).flatMap fun i => oddL.map fun o => .tup ((m.map T.str).take i ++ o :: (m.map T.str).drop (i + 1))
def extraL : List T := [.tup [.str "read", .str "ab"], .tup [.str "read", .str "p"], .tup [.str "xx", .str "a"], .tup [.str "say", .str "a"], .tup [.str "read"], .tup [.str "read", .str "a", .str "b"], .tup [.str "do"], .tup [.str "do", .str "f"]]
def CL : List T := ((everyM ["f", "g1"]).flatMap fun m => unX m :: spoils m) ++ extraL
def okXB : T → Bool
  | .tup [.str w, .str x] => decide (x ∈ XS)
  | _ => true
def okB1 (x : RT T) (b : Bool) : Bool := match x with
  | .ok (.bl c) => c == b
  | _ => false
theorem okB1_is {x : RT T} {b : Bool} (h : okB1 x b = true) : x = .ok (.bl b) := by
  unfold okB1 at h
  split at h
  · rw [eq_of_beq h]
  · cases h
def goodB (t : T) : Bool := okXB t && ((!tupB t) || okB1 (qIn t saT) (saB t)) && okB1 (qNe (.lst [t]) (.lst [])) true
theorem CL_good : CL.all goodB = true := by decide +kernel
theorem good_of {t : T} (h : goodB t = true) : GoodT t := by
  unfold goodB at h
  rw [Bool.and_eq_true, Bool.and_eq_true] at h
  refine ⟨fun w x e => ?_, fun ht => ?_, okB1_is h.2⟩
  · subst e
    exact of_decide_eq_true h.1.1
  · have := h.1.2
    rw [ht] at this
    exact okB1_is (by simpa using this)
theorem cl_good {t : T} (h : t ∈ CL) : GoodT t := good_of (List.all_eq_true.mp CL_good t h)
section
variable {hs : List Str} (sub : ∀ x ∈ hs, x ∈ (["f", "g1"] : List Str)) {n : Nat}
include sub
theorem every_sub {m : Mk} (h : m ∈ everyM hs) : m ∈ everyM ["f", "g1"] := by
  rw [every_iff] at h ⊢
  rcases h with h | h | ⟨x, hx, h⟩ | h
  · exact .inl h
  · exact .inr (.inl h)
  · exact .inr (.inr (.inl ⟨x, sub x hx, h⟩))
  · exact .inr (.inr (.inr h))
theorem mark_CL {m : Mk} (h : m ∈ everyM hs) : unX m ∈ CL := List.mem_append_left _ (List.mem_flatMap.mpr ⟨m, every_sub sub h, List.mem_cons_self⟩)
theorem spoil_CL {m : Mk} (h : m ∈ everyM hs) {t : T} (ht : t ∈ spoils m) : t ∈ CL := List.mem_append_left _ (List.mem_flatMap.mpr ⟨m, every_sub sub h, List.mem_cons_of_mem _ ht⟩)
theorem mark_isMb {m : Mk} (h : m ∈ everyM hs) : isMb hs (unX m) = true := by
  rcases every_iff.mp h with rfl | rfl | ⟨x, hx, rfl⟩ | ⟨x, hx, rfl | rfl⟩
  · rfl
  · rfl
  · show isMb hs (.tup [.str "do", .str x]) = true
    simp [isMb, hx]
  · show isMb hs (.tup [.str "read", .str x]) = true
    have : ("read" : Str) ≠ "do" := by decide +kernel
    simp [isMb, this, hx]
  · show isMb hs (.tup [.str "write", .str x]) = true
    have : ("write" : Str) ≠ "do" := by decide +kernel
    simp [isMb, this, hx]
omit sub in
theorem isMb_mark {t : T} (h : isMb hs t = true) : ∃ m, m ∈ everyM hs ∧ t = unX m := by
  unfold isMb at h
  split at h
  · rename_i w
    rw [Bool.or_eq_true, decide_eq_true_eq, decide_eq_true_eq] at h
    rcases h with rfl | rfl
    · exact ⟨mS, every_iff.mpr (.inr (.inl rfl)), rfl⟩
    · exact ⟨mA, every_iff.mpr (.inl rfl), rfl⟩
  · rename_i w x
    split at h
    · rename_i hw
      subst hw
      exact ⟨mD x, every_iff.mpr (.inr (.inr (.inl ⟨x, of_decide_eq_true h, rfl⟩))), rfl⟩
    · rw [Bool.and_eq_true, Bool.or_eq_true, decide_eq_true_eq, decide_eq_true_eq, decide_eq_true_eq] at h
      obtain ⟨rfl | rfl, hx⟩ := h
      · exact ⟨mR x, every_iff.mpr (.inr (.inr (.inr ⟨x, hx, .inl rfl⟩))), rfl⟩
      · exact ⟨mW x, every_iff.mpr (.inr (.inr (.inr ⟨x, hx, .inr rfl⟩))), rfl⟩
  · cases h
theorem kind_first {L : List T} (hL : ∀ t ∈ L, t ∈ CL) (hn : 4 ≤ n) (hl : L.length ≤ 100) {z2 z3 z4 : Option T} : tFn qAll (tCons (tLc (tiAny (tVar 0)) (hN 2) tYes (tCall 2 (tv (csem n .f_is_mark)) (tCons (tVar 2) (tCons (tVar 1) tNil))) [2]) tNil) [some (.lst L), some (tstrs hs), z2, z3, z4] = .ok (.bl (L.all (isMb hs))) := by
  have c1 := t_lcA (τ := [some (.lst L), some (tstrs hs), z2, z3, z4]) (it := tiAny (tVar 0)) (g := hN 2) (e := tCall 2 (tv (csem n .f_is_mark)) (tCons (tVar 2) (tCons (tVar 1) tNil))) (vs := [2])
    (l := L) (m := id) (f := fun t => T.bl (isMb hs t)) ((ti_any (l := .lst L) rfl (.inl rfl)).trans (by rw [List.map_id])) (fun t ht => ⟨_, rfl, by
      have e := is_mark_any sub (cl_good (hL t ht)).x hn
      simp only [id, te_call, te_cons, te_nil, twipe, List.set_cons_succ, List.set_cons_zero, List.foldl_cons, List.foldl_nil]
      rw [te_V (t := t) rfl, te_V (t := tstrs hs) rfl]
      exact e⟩) (by omega)
  have e2 : (L.map fun t => T.bl (isMb hs t)) = (L.map (isMb hs)).map T.bl := by rw [List.map_map]; rfl
  rw [e2] at c1
  simp only [te_fn, te_cons, te_nil]
  rw [c1, RT.bind_ok, RT.bind_ok, RT.bind_ok, qAll_bls, List.all_map]
  rfl
theorem law_first {L : List T} (hL : ∀ t ∈ L, t ∈ CL) (hn : 4 ≤ n) (hl : L.length ≤ 100) {z2 : Option T} : tLc (tiAny (tVar 0)) (hN 2) (tbNot (tTest (tCall 2 (tv (csem n .f__law_is_mark)) (tCons (tVar 2) (tCons (tVar 1) tNil))))) (tVar 2) [2] [some (.lst L), some (tstrs hs), z2] = .ok (.lst (L.filter fun t => !isMb hs t)) := by
  have c1 := t_lc (τ := [some (.lst L), some (tstrs hs), z2]) (it := tiAny (tVar 0)) (g := hN 2) (c := tbNot (tTest (tCall 2 (tv (csem n .f__law_is_mark)) (tCons (tVar 2) (tCons (tVar 1) tNil))))) (e := tVar 2) (vs := [2])
    (l := L) (m := id) (k := fun t => !isMb hs t) (f := id) ((ti_any (l := .lst L) rfl (.inl rfl)).trans (by rw [List.map_id])) (fun t ht => ⟨_, rfl, by
      have e := law_mark_any (hs := hs) (cl_good (hL t ht)) hn
      simp only [id, te_not, te_test, te_call, te_cons, te_nil, twipe, List.set_cons_succ, List.set_cons_zero, List.foldl_cons, List.foldl_nil]
      rw [te_V (t := t) rfl, te_V (t := tstrs hs) rfl]
      simp [e], fun _ => rfl⟩) (by omega)
  rw [List.map_id] at c1
  exact c1
theorem kind_none {t : T} (h : lstB t = false) (hn : 2 ≤ n) : tv (csem n .f_is_kind) [t, tstrs hs] = .ok (.bl false) ∧ tv (csem n .f__law_is_kind) [t, tstrs hs] = .ok (.bl false) := by
  obtain ⟨n, rfl⟩ : ∃ j, n = j + 2 := ⟨n - 2, by omega⟩
  have i0 := fun (τ : TEnv) (e : τ[0]? = some (some t)) => isi_of (p := tVar 0) (τ := τ) (te_V e) (klst t)
  rw [h] at i0
  constructor
  · refine cq_f_is_kind (t_run rfl ?_) (by simp)
    unfold ct_f_is_kind
    refine t_seqR (t_if (b := true) ?_ (by rw [if_pos rfl]; exact t_ret rfl))
    rw [te_or, te_not, te_test, i0 _ rfl]
    rfl
  · refine cq_f__law_is_kind (t_run rfl ?_) (by simp)
    unfold ct_f__law_is_kind
    refine t_seqR (t_if (b := true) ?_ (by rw [if_pos rfl]; exact t_ret rfl))
    rw [te_or, te_not, te_test, i0 _ rfl]
    rfl
theorem kind_bad {A B : List Mk} {t : T} (hA : ∀ m ∈ A, m ∈ everyM hs) (hB : ∀ m ∈ B, m ∈ everyM hs) (ht : t ∈ CL) (hm : isMb hs t = false) (hl : A.length + B.length ≤ 90) (hn : 6 ≤ n) :
    tv (csem n .f_is_kind) [.lst (A.map unX ++ t :: B.map unX), tstrs hs] = .ok (.bl false) ∧ tv (csem n .f__law_is_kind) [.lst (A.map unX ++ t :: B.map unX), tstrs hs] = .ok (.bl false) := by
  obtain ⟨n, rfl⟩ : ∃ j, n = j + 2 := ⟨n - 2, by omega⟩
  have hL : ∀ u ∈ A.map unX ++ t :: B.map unX, u ∈ CL := fun u hu => by
    rcases List.mem_append.mp hu with hu | hu
    · obtain ⟨m, h, rfl⟩ := List.mem_map.mp hu; exact mark_CL sub (hA m h)
    · rcases List.mem_cons.mp hu with rfl | hu
      · exact ht
      · obtain ⟨m, h, rfl⟩ := List.mem_map.mp hu; exact mark_CL sub (hB m h)
  have ll : (A.map unX ++ t :: B.map unX).length ≤ 100 := by simp; omega
  constructor
  · refine cq_f_is_kind (t_run rfl ?_) (by simp)
    unfold ct_f_is_kind
    have k1 := kind_first sub hL (n := n + 1) (by omega) ll (z2 := none) (z3 := none) (z4 := none)
    have al : (A.map unX ++ t :: B.map unX).all (isMb hs) = false := by
      rw [List.all_append, List.all_cons, hm]
      simp
    rw [al] at k1
    refine t_seqR (t_if (b := true) ?_ (by rw [if_pos rfl]; exact t_ret rfl))
    have i1 := isi_list (p := tVar 0) (τ := [some (.lst (A.map unX ++ t :: B.map unX)), some (tstrs hs), none, none, none]) (ts := A.map unX ++ t :: B.map unX) rfl
    show tbOr _ _ [some (.lst (A.map unX ++ t :: B.map unX)), some (tstrs hs), none, none, none] = _
    rw [te_or, te_not, te_test, i1, RT.bind_ok, asB_bl, RT.bind_ok, Bool.not_true, RT.bind_ok, if_neg (by decide), te_not, te_test, k1]
    rfl
  · refine cq_f__law_is_kind (t_run rfl ?_) (by simp)
    unfold ct_f__law_is_kind
    have k1 := law_first sub hL (n := n + 1) (by omega) ll (z2 := none)
    have fe (C : List Mk) (hC : ∀ m ∈ C, m ∈ everyM hs) : (C.map unX).filter (fun t => !isMb hs t) = [] := by
      rw [List.filter_eq_nil_iff]
      intro u hu
      obtain ⟨m, h, rfl⟩ := List.mem_map.mp hu
      simp [mark_isMb sub (hC m h)]
    rw [List.filter_append, fe A hA, List.filter_cons, if_pos (by simp [hm]), fe B hB, List.nil_append] at k1
    refine t_seqR (t_if (b := true) ?_ (by rw [if_pos rfl]; exact t_ret rfl))
    have i1 := isi_list (p := tVar 0) (τ := [some (.lst (A.map unX ++ t :: B.map unX)), some (tstrs hs), none]) (ts := A.map unX ++ t :: B.map unX) rfl
    show tbOr _ _ [some (.lst (A.map unX ++ t :: B.map unX)), some (tstrs hs), none] = _
    rw [te_or, te_not, te_test, i1, RT.bind_ok, asB_bl, RT.bind_ok, Bool.not_true, RT.bind_ok, if_neg (by decide), te_test, te_bin, k1, RT.bind_ok]
    simp only [te_lst, te_nil, RT.bind_ok, List.length_nil, okB_0, if_true, (cl_good ht).n]
    rfl
theorem kind_marks {M : List Mk} (hM : ∀ m ∈ M, m ∈ everyM hs) (hl : M.length ≤ 90) (hn : 6 ≤ n) :
    tv (csem n .f_is_kind) [lm M, tstrs hs] = .ok (.bl (decide (M = rise tLt M))) ∧ tv (csem n .f__law_is_kind) [lm M, tstrs hs] = .ok (.bl (decide (M = rise tLt M))) := by
  obtain ⟨n, rfl⟩ : ∃ j, n = j + 2 := ⟨n - 2, by omega⟩
  have hL : ∀ u ∈ M.map unX, u ∈ CL := fun u hu => by
    obtain ⟨m, h, rfl⟩ := List.mem_map.mp hu; exact mark_CL sub (hM m h)
  have ll : (M.map unX).length ≤ 100 := by simp; omega
  have iM : ∀ m ∈ M, m ∈ allM := fun m hm => okM_all (every_okK (ns := []) (hs := ["f", "g1"]) (by decide +kernel) (every_sub sub (hM m hm)))
  constructor
  · refine cq_f_is_kind (t_run rfl ?_) (by simp)
    unfold ct_f_is_kind
    have k1 := kind_first sub hL (n := n + 1) (by omega) ll (z2 := none) (z3 := none) (z4 := none)
    have al : (M.map unX).all (isMb hs) = true := by
      rw [List.all_eq_true]
      intro u hu
      obtain ⟨m, h, rfl⟩ := List.mem_map.mp hu
      exact mark_isMb sub (hM m h)
    rw [al] at k1
    refine t_skip ?_ (t_ret ?_)
    · have i1 := isi_list (p := tVar 0) (τ := [some (lm M), some (tstrs hs), none, none, none]) (ts := M.map unX) rfl
      have k1' : tFn qAll (tCons (tLc (tiAny (tVar 0)) (hN 2) tYes (tCall 2 (tv (csem (n + 1) .f_is_mark)) (tCons (tVar 2) (tCons (tVar 1) tNil))) [2]) tNil) [some (lm M), some (tstrs hs), none, none, none] = .ok (.bl true) := k1
      show tbOr _ _ [some (lm M), some (tstrs hs), none, none, none] = _
      rw [te_or, te_not, te_test, i1, RT.bind_ok, asB_bl, RT.bind_ok, Bool.not_true, RT.bind_ok, if_neg (by decide), te_not, te_test, k1']
      rfl
    · have z : tiZip (tVar 0) (tSl (tVar 0) (tPart (tC (.int 1))) tNoPart) [some (lm M), some (tstrs hs), none, none, none] = .ok ((M.zip (M.drop 1)).map fun p => .tup [unX p.1, unX p.2]) := by
        have sl : (tSl (tVar 0) (tPart (tC (.int 1))) tNoPart) [some (lm M), some (tstrs hs), none, none, none] = .ok (lm (M.drop 1)) := by
          have z := cut_hi (ts := M.map unX) (k := 1)
          simp only [te_sl, te_part, te_C, te_noPart, RT.bind_ok, asI_int]
          rw [te_V (t := lm M) rfl, RT.bind_ok]
          unfold lm
          rw [q_slL, if_pos (okB_of (by rw [List.length_map]; omega))]
          refine (congrArg (fun z => RT.ok (T.lst z)) z).trans ?_
          rw [List.map_drop]
        unfold tiZip
        rw [te_V (t := lm M) rfl, sl, RT.bind_ok, RT.bind_ok]
        show pairsOk (M.map unX) ((M.drop 1).map unX) = _
        unfold pairsOk
        rw [pairsT_map (hs := []) (by simp), if_pos]
        rw [List.all_map, List.all_eq_true]
        intro p _
        rfl
      have c2 := t_lcA (τ := [some (lm M), some (tstrs hs), none, none, none]) (it := tiZip (tVar 0) (tSl (tVar 0) (tPart (tC (.int 1))) tNoPart)) (g := hT 2 (hsCons (hN 3) (hsCons (hN 4) hsNil))) (e := tBin qLtM (tVar 3) (tVar 4)) (vs := [3, 4])
        (l := M.zip (M.drop 1)) (m := fun p => .tup [unX p.1, unX p.2]) (f := fun p => T.bl (tLt p.1 p.2)) z (fun p hp => ⟨_, rfl, by
          simp only [te_bin, twipe, List.set_cons_succ, List.set_cons_zero, List.foldl_cons, List.foldl_nil]
          rw [te_V (t := unX p.1) rfl, te_V (t := unX p.2) rfl, RT.bind_ok, RT.bind_ok]
          have t1 : textsT (unX p.1) = some p.1 := fall_strX p.1
          have t2 : textsT (unX p.2) = some p.2 := fall_strX p.2
          unfold qLtM
          rw [t1, t2]⟩) (by simp; omega)
      have e3 : ((M.zip (M.drop 1)).map fun p => T.bl (tLt p.1 p.2)) = ((M.zip (M.drop 1)).map fun p => tLt p.1 p.2).map T.bl := by rw [List.map_map]; rfl
      rw [e3] at c2
      simp only [te_fn, te_cons, te_nil, List.map_cons, List.map_nil, List.cons_append, List.nil_append, List.replicate, Nat.reduceSub, List.length_cons, List.length_nil]
      rw [c2, RT.bind_ok, RT.bind_ok, RT.bind_ok, qAll_bls, List.all_map, ← rising_dec]
      rfl
  · refine cq_f__law_is_kind (t_run rfl ?_) (by simp)
    unfold ct_f__law_is_kind
    have k1 := law_first sub hL (n := n + 1) (by omega) ll (z2 := none)
    have fe : (M.map unX).filter (fun t => !isMb hs t) = [] := by
      rw [List.filter_eq_nil_iff]
      intro u hu
      obtain ⟨m, h, rfl⟩ := List.mem_map.mp hu
      simp [mark_isMb sub (hM m h)]
    rw [fe] at k1
    have k1' : tLc (tiAny (tVar 0)) (hN 2) (tbNot (tTest (tCall 2 (tv (csem (n + 1) .f__law_is_mark)) (tCons (tVar 2) (tCons (tVar 1) tNil))))) (tVar 2) [2] [some (lm M), some (tstrs hs), none] = .ok (.lst []) := k1
    refine t_skip ?_ (t_ret ?_)
    · have i1 := isi_list (p := tVar 0) (τ := [some (lm M), some (tstrs hs), none]) (ts := M.map unX) rfl
      have nq : qNe (.lst []) (.lst []) = .ok (.bl false) := qNe_same (t := .lst []) (FineK.lst (k := 37) (.nil _)) rfl
      show tbOr _ _ [some (lm M), some (tstrs hs), none] = _
      rw [te_or, te_not, te_test, i1, RT.bind_ok, asB_bl, RT.bind_ok, Bool.not_true, RT.bind_ok, if_neg (by decide), te_test, te_bin, k1', RT.bind_ok]
      simp only [te_lst, te_nil, RT.bind_ok, List.length_nil, okB_0, if_true, nq]
      rfl
    · show tBin qEq (tVar 0) (tSS (tVar 0)) [some (lm M), some (tstrs hs), none] = _
      have ss := ss_lm (p := tVar 0) (τ := [some (lm M), some (tstrs hs), none]) (a := M) rfl iM
      rw [te_bin, te_V (t := lm M) rfl, RT.bind_ok, ss, RT.bind_ok, eqM iM fun m hm => iM m ((mem_rise ord_tup).mp hm)]
end
end DL

set_option Elab.async false
set_option linter.all false
set_option maxRecDepth 100000
set_option maxHeartbeats 1000000
namespace DL
open PySem
open KS (rise tLt ord_tup mem_rise Rising rising_rise rising_one)
theorem q_modT {a b : Int} (h : 0 < b) : qMod (.int a) (.int b) = .ok (.int (a % b)) := by
  unfold qMod
  simp only [if_pos h]
theorem q_divT {a b : Int} (h : 0 < b ∧ b < 1073741824) : qDiv (.int a) (.int b) = .ok (.int (a / b)) := by
  unfold qDiv
  simp only [if_pos h]
theorem odd_T {n k : Nat} (hn : 2 ≤ n) : ∃ t, t ∈ oddL ∧ tv (csem n .f__law_odd) [.int (k : Nat)] = .ok t := by
  obtain ⟨n, rfl⟩ : ∃ j, n = j + 2 := ⟨n - 2, by omega⟩
  have lo : oddL.length = 26 := rfl
  have li : k % 26 < oddL.length := by rw [lo]; omega
  refine ⟨oddL[k % 26], List.getElem_mem li, cq_f__law_odd (t_run rfl ?_) (by simp)⟩
  unfold ct_f__law_odd
  refine t_own (t := .lst (oddL.take 18)) rfl (by simp) ?_
  refine t_seq (τ' := [some (.int (k : Nat)), some (.lst (oddL.take 25))]) rfl ?_
  refine t_seq (τ' := [some (.int (k : Nat)), some (.lst oddL)]) rfl (t_ret ?_)
  simp only [te_bin, te_C]
  rw [te_V (t := .lst oddL) rfl, te_V (t := .int (k : Nat)) rfl]
  simp only [RT.bind_ok, q_modT (a := (k : Nat)) (b := 26) (by decide)]
  have e : ((k : Nat) : Int) % 26 = ((k % 26 : Nat) : Int) := by omega
  rw [e]
  exact get_L (List.getElem?_eq_getElem li)
theorem kint (t : T) (h : strB t = true ∨ tupB t = true) : L2.kitB (tyT t) "int" = some false := by
  cases t with
  | str _ => exact (by decide +kernel : L2.kitB "str" "int" = some false)
  | tup _ => exact (by decide +kernel : L2.kitB "tuple" "int" = some false)
  | _ => rcases h with h | h <;> cases h
theorem spoil_str {n k : Nat} {x : Str} {dp : Int} (hn : 4 ≤ n) : ∃ t, t ∈ oddL ∧ tv (csem n .f__law_spoilt) [.str x, .int (k : Nat), .int dp] = .ok t := by
  obtain ⟨n, rfl⟩ : ∃ j, n = j + 2 := ⟨n - 2, by omega⟩
  obtain ⟨t, ht, e⟩ := odd_T (n := n + 1) (k := k / 7) (by omega)
  refine ⟨t, ht, cq_f__law_spoilt (t_run rfl ?_) (by simp)⟩
  unfold ct_f__law_spoilt
  have i0 : tIsi "tuple" (tVar 0) [some (.str x), some (.int (k : Nat)), some (.int dp), none, none] = .ok (.bl false) := isi_of rfl (kt (.str x))
  have i1 : tIsi "int" (tVar 0) [some (.str x), some (.int (k : Nat)), some (.int dp), none, none] = .ok (.bl false) := isi_of rfl (kint (.str x) (.inl rfl))
  have c0 : ∀ {c : TDenB}, tbAnd (tTest (tIsi "tuple" (tVar 0))) c [some (.str x), some (.int (k : Nat)), some (.int dp), none, none] = .ok false := fun {c} => by
    rw [te_and, te_test, i0]
    rfl
  refine t_skip ?_ (t_skip c0 (t_skip ?_ (t_ret ?_)))
  · show tbAnd _ _ [some (.str x), some (.int (k : Nat)), some (.int dp), none, none] = _
    rw [te_and, c0]
    simp only [te_test, te_bin, te_C]
    rw [te_V (t := .int dp) rfl]
    simp
  · show tbAnd _ _ [some (.str x), some (.int (k : Nat)), some (.int dp), none, none] = _
    rw [te_and, te_test, i1]
    rfl
  · show tCall 1 _ _ [some (.str x), some (.int (k : Nat)), some (.int dp), none, none] = _
    simp only [te_call, te_cons, te_nil, te_bin, te_C]
    rw [te_V (t := .int (k : Nat)) rfl]
    simp only [RT.bind_ok, q_divT (a := (k : Nat)) (b := 7) (by decide), List.length_cons, List.length_nil, Nat.zero_add, Nat.reduceAdd, if_true]
    have e7 : ((k : Nat) : Int) / 7 = ((k / 7 : Nat) : Int) := by omega
    rw [e7]
    exact e
theorem mul_tup {ts : List T} (h : ts ≠ []) (hl : ts.length ≤ 1000) : qMul (.tup ts) (.int 2) = .ok (.tup (ts ++ ts)) := by
  rw [qMul_eq]
  simp only [qMul0]
  rw [if_neg (by simp [h]), if_pos ⟨by decide, by decide, hl⟩]
  simp [List.replicate]
theorem spoil_mark {n k : Nat} {m : Mk} (hm : m.length = 1 ∨ m.length = 2) {dp : Nat} (hn : 8 ≤ n) : ∃ t, t ∈ spoils m ∧ tv (csem n .f__law_spoilt) [unX m, .int (k : Nat), .int (dp : Nat)] = .ok t := by
  obtain ⟨n, rfl⟩ : ∃ j, n = j + 2 := ⟨n - 2, by omega⟩
  have l0 : (m.map T.str).length = m.length := List.length_map ..
  have i0 : ∀ z3 z4, tIsi "tuple" (tVar 0) [some (unX m), some (.int (k : Nat)), some (.int (dp : Nat)), z3, z4] = .ok (.bl true) := fun z3 z4 => isi_of rfl (kt (unX m))
  have i1 : tIsi "int" (tVar 0) [some (unX m), some (.int (k : Nat)), some (.int (dp : Nat)), none, none] = .ok (.bl false) := isi_of rfl (kint (unX m) (.inr rfl))
  have ln : ∀ z3 z4, tFn qLen (tCons (tVar 0) tNil) [some (unX m), some (.int (k : Nat)), some (.int (dp : Nat)), z3, z4] = .ok (.int (m.length : Nat)) := fun z3 z4 => by
    simp only [te_fn, te_cons, te_nil]
    rw [te_V (t := unX m) rfl]
    simp only [RT.bind_ok, unX, q_lenT, l0]
  have gl : tTest (tBin qGt (tFn qLen (tCons (tVar 0) tNil)) (tC (.int 0))) [some (unX m), some (.int (k : Nat)), some (.int (dp : Nat)), none, none] = .ok true := by
    rw [te_test, te_bin, ln, RT.bind_ok, te_C, RT.bind_ok, q_gt, RT.bind_ok, asB_bl, decide_eq_true (by omega)]
  have dv : ∀ (c : Nat), 0 < c → c < 1073741824 → (tBin qDiv (tVar 1) (tC (.int (c : Nat)))) [some (unX m), some (.int (k : Nat)), some (.int (dp : Nat)), none, none] = .ok (.int ((k / c : Nat) : Int)) := fun c h1 h2 => by
    simp only [te_bin, te_C]
    rw [te_V (t := .int (k : Nat)) rfl]
    simp only [RT.bind_ok]
    rw [q_divT ⟨by omega, by omega⟩, Int.natCast_ediv]
  have dv7 := dv 7 (by decide) (by decide)
  have dv91 := dv 91 (by decide) (by decide)
  have dv14 := dv 14 (by decide) (by decide)
  have md7 : tTest (tBin qGt (tBin qMod (tVar 1) (tC (.int 7))) (tC (.int 0))) [some (unX m), some (.int (k : Nat)), some (.int (dp : Nat)), none, none] = .ok (decide (0 < k % 7)) := by
    simp only [te_test, te_bin, te_C]
    rw [te_V (t := .int (k : Nat)) rfl]
    simp only [RT.bind_ok, q_modT (a := (k : Nat)) (b := 7) (by decide), q_gt, asB_bl]
    congr 1
    exact decide_eq_decide.mpr (by omega)
  have c1 : tbAnd (tTest (tBin qGt (tVar 2) (tC (.int 0)))) (tbAnd (tTest (tIsi "tuple" (tVar 0))) (tbAnd (tTest (tBin qGt (tFn qLen (tCons (tVar 0) tNil)) (tC (.int 0)))) (tTest (tBin qGt (tBin qMod (tVar 1) (tC (.int 7))) (tC (.int 0)))))) [some (unX m), some (.int (k : Nat)), some (.int (dp : Nat)), none, none] = .ok (decide (0 < dp) && decide (0 < k % 7)) := by
    have g2 : tTest (tBin qGt (tVar 2) (tC (.int 0))) [some (unX m), some (.int (k : Nat)), some (.int (dp : Nat)), none, none] = .ok (decide (0 < dp)) := by
      simp only [te_test, te_bin, te_C]
      rw [te_V (t := .int (dp : Nat)) rfl]
      simp only [RT.bind_ok, q_gt, asB_bl]
      congr 1
      exact decide_eq_decide.mpr (by omega)
    rw [te_and, g2, RT.bind_ok]
    cases decide (0 < dp) with
    | false => rfl
    | true => rw [if_pos rfl, te_and, te_test, i0, RT.bind_ok, asB_bl, RT.bind_ok, if_pos rfl, te_and, gl, RT.bind_ok, if_pos rfl, md7, Bool.true_and]
  have odd := odd_T (n := n + 1) (k := k / 7) (by omega)
  by_cases q1 : (decide (0 < dp) && decide (0 < k % 7)) = true
  · rw [q1] at c1
    have hdp : 0 < dp := by
      rw [Bool.and_eq_true] at q1
      exact of_decide_eq_true q1.1
    have li : k / 7 % m.length < m.length := Nat.mod_lt _ (by omega)
    obtain ⟨x, hx⟩ : ∃ x, m[k / 7 % m.length]? = some x := ⟨_, List.getElem?_eq_getElem li⟩
    obtain ⟨o, ho, es⟩ := spoil_str (n := n + 1) (k := k / 91) (x := x) (dp := (dp : Int) - 1) (by omega)
    refine ⟨.tup ((m.map T.str).take (k / 7 % m.length) ++ o :: (m.map T.str).drop (k / 7 % m.length + 1)), ?_, cq_f__law_spoilt (t_run rfl ?_) (by simp)⟩
    · exact List.mem_append_right _ (List.mem_flatMap.mpr ⟨k / 7 % m.length, List.mem_range.mpr li, List.mem_map.mpr ⟨o, ho, rfl⟩⟩)
    · unfold ct_f__law_spoilt
      refine t_seqR (t_if (b := true) c1 ?_)
      rw [if_pos rfl]
      have ea : (tBin qMod (tBin qDiv (tVar 1) (tC (.int 7))) (tFn qLen (tCons (tVar 0) tNil))) [some (unX m), some (.int (k : Nat)), some (.int (dp : Nat)), none, none] = .ok (.int ((k / 7 % m.length : Nat) : Int)) := by
        have dv7' : (tBin qDiv (tVar 1) (tC (.int 7))) [some (unX m), some (.int (k : Nat)), some (.int (dp : Nat)), none, none] = .ok (.int ((k / 7 : Nat) : Int)) := dv7
        rw [te_bin, dv7', RT.bind_ok, ln, RT.bind_ok, q_modT (by omega), Int.natCast_emod]
      refine t_asg (t := .int ((k / 7 % m.length : Nat) : Int)) ea rfl ?_
      generalize k / 7 % m.length = at_ at *
      have gx : qGet (unX m) (.int (at_ : Nat)) = .ok (.str x) := by
        unfold unX
        rw [q_getT, L2atI (by rw [l0]; exact li), List.getElem?_map, hx]
        rfl
      refine t_asg (t := o) ?_ rfl (t_ret ?_)
      · simp only [te_call, te_cons, te_nil, te_bin, te_C, List.set_cons_succ, List.set_cons_zero]
        rw [te_V (t := unX m) rfl, te_V (t := .int (at_ : Nat)) rfl, te_V (t := .int (k : Nat)) rfl, te_V (t := .int (dp : Nat)) rfl]
        have e91 : ((k : Nat) : Int) / 91 = ((k / 91 : Nat) : Int) := by omega
        simp only [RT.bind_ok, gx, q_divT (a := (k : Nat)) (b := 91) (by decide), q_subI, List.length_cons, List.length_nil, Nat.zero_add, Nat.reduceAdd, if_true, e91]
        exact es
      · simp only [te_bin, te_sl, te_noPart, te_part, te_tup, te_cons, te_nil, te_C, List.set_cons_succ, List.set_cons_zero]
        rw [te_V (t := unX m) rfl, te_V (t := .int (at_ : Nat)) rfl, te_V (t := o) rfl]
        have ec : ((at_ : Nat) : Int) + 1 = ((at_ + 1 : Nat) : Int) := by omega
        have l1 : ((m.map T.str).take at_).length ≤ 2 := by rw [List.length_take, l0]; omega
        have l2 : ((m.map T.str).drop (at_ + 1)).length ≤ 2 := by rw [List.length_drop, l0]; omega
        simp only [RT.bind_ok, unX, asI_int, q_addI, ec, q_slT, cut_lo', cut_hi, List.length_cons, List.length_nil, Nat.zero_add, okB_1, if_true, q_addT]
        rw [if_pos (okB_of (by simp; omega))]
        simp only [RT.bind_ok, q_addT]
        rw [if_pos (okB_of (by simp; omega))]
        rw [List.append_assoc]
        rfl
  · rw [Bool.not_eq_true] at q1
    rw [q1] at c1
    have c2 : tbAnd (tTest (tIsi "tuple" (tVar 0))) (tbAnd (tTest (tBin qGt (tFn qLen (tCons (tVar 0) tNil)) (tC (.int 0)))) (tTest (tBin qEq (tBin qMod (tBin qDiv (tVar 1) (tC (.int 7))) (tC (.int 2))) (tC (.int 0))))) [some (unX m), some (.int (k : Nat)), some (.int (dp : Nat)), none, none] = .ok (decide (((k / 7 : Nat) : Int) % 2 = 0)) := by
      have dv7' : (tBin qDiv (tVar 1) (tC (.int 7))) [some (unX m), some (.int (k : Nat)), some (.int (dp : Nat)), none, none] = .ok (.int ((k / 7 : Nat) : Int)) := dv7
      rw [te_and, te_test, i0, RT.bind_ok, asB_bl, RT.bind_ok, if_pos rfl, te_and, gl, RT.bind_ok, if_pos rfl, te_test, te_bin, te_bin, dv7', RT.bind_ok, te_C, RT.bind_ok, q_modT (by decide), RT.bind_ok, te_C, RT.bind_ok, q_eqI, RT.bind_ok, asB_bl]
    by_cases q2 : ((k / 7 : Nat) : Int) % 2 = 0
    · rw [decide_eq_true q2] at c2
      have six : tLst (tCons (tFn qList (tCons (tVar 0) tNil)) (tCons (tSl (tVar 0) tNoPart (tPart (tNeg (tC (.int 1))))) (tCons (tBin qAdd (tVar 0) (tSl (tVar 0) (tPart (tNeg (tC (.int 1)))) tNoPart)) (tCons (tSl (tVar 0) (tPart (tC (.int 1))) tNoPart) (tCons (tRevU (tVar 0)) (tCons (tBin qMul (tVar 0) (tC (.int 2))) tNil)))))) [some (unX m), some (.int (k : Nat)), some (.int (dp : Nat)), none, none] = .ok (.lst (sixL (m.map T.str))) := by
        have e6 : (tBin qMul (tVar 0) (tC (.int 2))) [some (unX m), some (.int (k : Nat)), some (.int (dp : Nat)), none, none] = .ok (.tup (m.map T.str ++ m.map T.str)) := by
          rw [te_bin, te_V (t := unX m) rfl, RT.bind_ok, te_C, RT.bind_ok]
          exact mul_tup (fun z => by
            have z2 := congrArg List.length z
            rw [l0] at z2
            have z3 : m.length = 0 := z2
            omega) (by rw [l0]; omega)
        match m, hm, e6 with
        | [w], _, e6 =>
          rw [te_lst, te_cons, te_cons, te_cons, te_cons, te_cons, te_cons, te_nil, e6]
          rfl
        | [w, x], _, e6 =>
          rw [te_lst, te_cons, te_cons, te_cons, te_cons, te_cons, te_cons, te_nil, e6]
          rfl
      have l6 : (sixL (m.map T.str)).length = 6 := rfl
      have li : k / 14 % 6 < (sixL (m.map T.str)).length := by rw [l6]; omega
      refine ⟨(sixL (m.map T.str))[k / 14 % 6], List.mem_append_left _ (List.mem_append_left _ (List.getElem_mem li)), cq_f__law_spoilt (t_run rfl ?_) (by simp)⟩
      unfold ct_f__law_spoilt
      refine t_skip c1 (t_seqR (t_if (b := true) c2 ?_))
      rw [if_pos rfl]
      refine t_ret ?_
      have dv14' : (tBin qDiv (tVar 1) (tC (.int 14))) [some (unX m), some (.int (k : Nat)), some (.int (dp : Nat)), none, none] = .ok (.int ((k / 14 : Nat) : Int)) := dv14
      show tBin qGet _ _ [some (unX m), some (.int (k : Nat)), some (.int (dp : Nat)), none, none] = _
      rw [te_bin, six, RT.bind_ok, te_bin, dv14', RT.bind_ok, te_C, RT.bind_ok, q_modT (by decide), RT.bind_ok]
      have e : ((k / 14 : Nat) : Int) % 6 = ((k / 14 % 6 : Nat) : Int) := by omega
      rw [e]
      exact get_L (List.getElem?_eq_getElem li)
    · rw [decide_eq_false q2] at c2
      obtain ⟨t, ht, e⟩ := odd
      refine ⟨t, List.mem_append_left _ (List.mem_append_right _ ht), cq_f__law_spoilt (t_run rfl ?_) (by simp)⟩
      unfold ct_f__law_spoilt
      refine t_skip c1 (t_skip c2 (t_skip ?_ (t_ret ?_)))
      · show tbAnd _ _ [some (unX m), some (.int (k : Nat)), some (.int (dp : Nat)), none, none] = _
        rw [te_and, te_test, i1]
        rfl
      · show tCall 1 _ _ [some (unX m), some (.int (k : Nat)), some (.int (dp : Nat)), none, none] = _
        have dv7' : (tBin qDiv (tVar 1) (tC (.int 7))) [some (unX m), some (.int (k : Nat)), some (.int (dp : Nat)), none, none] = .ok (.int ((k / 7 : Nat) : Int)) := dv7
        rw [te_call, te_cons, dv7', RT.bind_ok, te_nil, RT.bind_ok, RT.bind_ok]
        exact e
end DL

set_option Elab.async false
set_option linter.all false
namespace Lk30
open PySem L2 DL
inductive LF where
  | f_law
def b_f_law (c c2 : CF → Fn) (l l2 : LF → Fn) : SDen :=
    (sSeq (sAsg (dBin oGet (dLst (dCons (dTup dNil) (dCons (dTup (dCons (dC (.str "f")) dNil)) (dCons (dTup (dCons (dC (.str "f")) (dCons (dC (.str "g1")) dNil))) dNil)))) (dCall 3 (c .f__law_drawn) (dCons (dVar 0) (dCons (dC (.int 0)) (dCons (dC (.int 3)) dNil))))) (gN 1))
    (sSeq (sAsg (dCall 3 (c .f__law_kind) (dCons (dVar 0) (dCons (dC (.int 1)) (dCons (dVar 1) dNil)))) (gN 2))
    (sSeq (sAsg (dCall 3 (c .f__law_kind) (dCons (dVar 0) (dCons (dC (.int 20)) (dCons (dVar 1) dNil)))) (gN 3))
    (sSeq (sAsg (dSl (dVar 2) dNoPart dNoPart) (gN 4))
    (sSeq (sIf (dTest (dBin oNe (dVar 2) (dLst dNil))) (sSeq (sAsg (dCall 3 (c .f__law_drawn) (dCons (dVar 0) (dCons (dC (.int 40)) (dCons (dFn fLen (dCons (dVar 2) dNil)) dNil)))) (gN 5))
    (sPut (dVar 4) (dVar 5) (dCall 3 (c .f__law_spoilt) (dCons (dBin oGet (dVar 2) (dVar 5)) (dCons (dCall 3 (c .f__law_drawn) (dCons (dVar 0) (dCons (dC (.int 41)) (dCons (dBin oPow (dC (.int 10)) (dC (.int 6))) dNil)))) (dCons (dCall 3 (c .f__law_drawn) (dCons (dVar 0) (dCons (dC (.int 42)) (dCons (dC (.int 3)) dNil)))) dNil)))))) sNil)
    (sSeq (sAsg (dLst (dCons (dVar 2) (dCons (dVar 4) (dCons (dRev (dVar 2)) (dCons (dFn fTuple (dCons (dVar 2) dNil)) (dCons (dBin oAdd (dVar 2) (dSl (dVar 2) dNoPart (dPart (dC (.int 1))))) (dCons (dLst (dCons (dTup (dCons (dC (.str "do")) (dCons (dC (.str "f")) dNil))) dNil)) (dCons (dLst (dCons (dTup (dCons (dC (.str "read")) (dCons (dC (.str "ab")) dNil))) dNil)) (dCons (dLst (dCons (dTup (dCons (dC (.str "read")) (dCons (dC (.str "p")) dNil))) dNil)) dNil))))))))) (gN 6))
    (sSeq (sAsg (dBin oAdd (dVar 6) (dLst (dCons (dLst (dCons (dTup (dCons (dC (.str "xx")) (dCons (dC (.str "a")) dNil))) dNil)) (dCons (dLst (dCons (dTup (dCons (dC (.str "say")) (dCons (dC (.str "a")) dNil))) dNil)) (dCons (dLst (dCons (dTup (dCons (dC (.str "read")) dNil)) dNil)) (dCons (dLst (dCons (dTup (dCons (dC (.str "read")) (dCons (dC (.str "a")) (dCons (dC (.str "b")) dNil)))) dNil)) (dCons (dLst (dCons (dTup (dCons (dC (.str "ask")) dNil)) (dCons (dTup (dCons (dC (.str "say")) dNil)) dNil))) (dCons (dLst (dCons (dTup (dCons (dC (.str "do")) dNil)) dNil)) dNil)))))))) (gN 6))
    (sSeq (sFor (iAny (dBin oAdd (dVar 6) (dLst (dCons (dCall 1 (c .f__law_odd) (dCons (dCall 3 (c .f__law_drawn) (dCons (dVar 0) (dCons (dC (.int 43)) (dCons (dC (.int 26)) dNil)))) dNil)) dNil)))) (gN 7) (sSeq (sAsg (dCall 2 (c .f_is_kind) (dCons (dVar 7) (dCons (dVar 1) dNil))) (gN 8))
    (sIf (bOr (bNot (dTest (dIsi "bool" (dVar 8)))) (dTest (dBin oNe (dVar 8) (dCall 2 (c .f__law_is_kind) (dCons (dVar 7) (dCons (dVar 1) dNil)))))) (sRet (dC (.bl false))) sNil)))
    (sSeq (sAsg (dCall 2 (c .f_is_less) (dCons (dVar 2) (dCons (dVar 3) dNil))) (gN 8))
    (sSeq (sIf (bOr (bNot (dTest (dIsi "bool" (dVar 8)))) (dTest (dBin oNe (dVar 8) (dBin oEq (dLc (iAny (dVar 2)) (gN 9) (dTest (dBin oNotIn (dVar 9) (dVar 3))) (dVar 9) [9]) (dLst dNil))))) (sRet (dC (.bl false))) sNil)
    (sSeq (sIf (dTest (dBin oNe (dCall 2 (c .f_both_of) (dCons (dVar 2) (dCons (dVar 3) dNil))) (dLc (iAny (dVar 2)) (gN 9) (dTest (dBin oIn (dVar 9) (dVar 3))) (dVar 9) [9]))) (sRet (dC (.bl false))) sNil)
    (sRet (dAndV (dBin oEq (dCall 2 (c .f_joined) (dCons (dVar 2) (dCons (dVar 3) dNil))) (dSS (dBin oAdd (dVar 2) (dVar 3)))) (dCall 2 (c .f_is_less) (dCons (dVar 2) (dCons (dVar 2) dNil))))))))))))))))
def lbody (c c2 : CF → Fn) (l l2 : LF → Fn) : LF → Fn
  | .f_law => runFn 1 10 (b_f_law c c2 l l2)
def lsem : Nat → LF → Fn
  | 0 => fun _ _ _ => .bad
  | 1 => fun _ _ _ => .bad
  | n + 2 => lbody (csem (n + 1)) (csem n) (lsem (n + 1)) (lsem n)
theorem ls_f_law (n : Nat) : lsem (n + 2) .f_law = runFn 1 10 (b_f_law (csem (n + 1)) (csem n) (lsem (n + 1)) (lsem n)) := rfl
end Lk30

set_option Elab.async false
set_option linter.all false
set_option maxRecDepth 100000
namespace Lk30
open PySem DL
noncomputable def lt_f_law (c : CF → TFn) (l : LF → TFn) (o o2 : CF → OFn) : TSDen :=
    (tsSeq (tsAsg (tBin qGet (tLst (tCons (tTup tNil) (tCons (tTup (tCons (tC (.str "f")) tNil)) (tCons (tTup (tCons (tC (.str "f")) (tCons (tC (.str "g1")) tNil))) tNil)))) (tCall 3 (c .f__law_drawn) (tCons (tVar 0) (tCons (tC (.int 0)) (tCons (tC (.int 3)) tNil))))) (hN 1))
    (tsSeq (tsAsg (tCall 3 (c .f__law_kind) (tCons (tVar 0) (tCons (tC (.int 1)) (tCons (tVar 1) tNil)))) (hN 2))
    (tsSeq (tsAsg (tCall 3 (c .f__law_kind) (tCons (tVar 0) (tCons (tC (.int 20)) (tCons (tVar 1) tNil)))) (hN 3))
    (tsSeq (tsOwn (tSlL (tVar 2)) 4)
    (tsSeq (tsIf (tTest (tBin qNe (tVar 2) (tLst tNil))) (tsSeq (tsAsg (tCall 3 (c .f__law_drawn) (tCons (tVar 0) (tCons (tC (.int 40)) (tCons (tFn qLen (tCons (tVar 2) tNil)) tNil)))) (hN 5))
    (tsPut 4 (tVar 5) (tCall 3 (c .f__law_spoilt) (tCons (tBin qGet (tVar 2) (tVar 5)) (tCons (tCall 3 (c .f__law_drawn) (tCons (tVar 0) (tCons (tC (.int 41)) (tCons (tBin qPow (tC (.int 10)) (tC (.int 6))) tNil)))) (tCons (tCall 3 (c .f__law_drawn) (tCons (tVar 0) (tCons (tC (.int 42)) (tCons (tC (.int 3)) tNil)))) tNil)))))) tsNil)
    (tsSeq (tsAsg (tLst (tCons (tVar 2) (tCons (tVar 4) (tCons (tRev (tVar 2)) (tCons (tFn qTuple (tCons (tVar 2) tNil)) (tCons (tBin qAdd (tVar 2) (tSl (tVar 2) tNoPart (tPart (tC (.int 1))))) (tCons (tLst (tCons (tTup (tCons (tC (.str "do")) (tCons (tC (.str "f")) tNil))) tNil)) (tCons (tLst (tCons (tTup (tCons (tC (.str "read")) (tCons (tC (.str "ab")) tNil))) tNil)) (tCons (tLst (tCons (tTup (tCons (tC (.str "read")) (tCons (tC (.str "p")) tNil))) tNil)) tNil))))))))) (hN 6))
    (tsSeq (tsAsg (tBin qAdd (tVar 6) (tLst (tCons (tLst (tCons (tTup (tCons (tC (.str "xx")) (tCons (tC (.str "a")) tNil))) tNil)) (tCons (tLst (tCons (tTup (tCons (tC (.str "say")) (tCons (tC (.str "a")) tNil))) tNil)) (tCons (tLst (tCons (tTup (tCons (tC (.str "read")) tNil)) tNil)) (tCons (tLst (tCons (tTup (tCons (tC (.str "read")) (tCons (tC (.str "a")) (tCons (tC (.str "b")) tNil)))) tNil)) (tCons (tLst (tCons (tTup (tCons (tC (.str "ask")) tNil)) (tCons (tTup (tCons (tC (.str "say")) tNil)) tNil))) (tCons (tLst (tCons (tTup (tCons (tC (.str "do")) tNil)) tNil)) tNil)))))))) (hN 6))
    (tsSeq (tsFor (tiAny (tBin qAdd (tVar 6) (tLst (tCons (tCall 1 (c .f__law_odd) (tCons (tCall 3 (c .f__law_drawn) (tCons (tVar 0) (tCons (tC (.int 43)) (tCons (tC (.int 26)) tNil)))) tNil)) tNil)))) (hN 7) (tsSeq (tsAsg (tCall 2 (c .f_is_kind) (tCons (tVar 7) (tCons (tVar 1) tNil))) (hN 8))
    (tsIf (tbOr (tbNot (tTest (tIsi "bool" (tVar 8)))) (tTest (tBin qNe (tVar 8) (tCall 2 (c .f__law_is_kind) (tCons (tVar 7) (tCons (tVar 1) tNil)))))) (tsRet (tC (.bl false))) tsNil)))
    (tsSeq (tsAsg (tCall 2 (c .f_is_less) (tCons (tVar 2) (tCons (tVar 3) tNil))) (hN 8))
    (tsSeq (tsIf (tbOr (tbNot (tTest (tIsi "bool" (tVar 8)))) (tTest (tBin qNe (tVar 8) (tBin qEq (tLc (tiAny (tVar 2)) (hN 9) (tTest (tBin qNotIn (tVar 9) (tVar 3))) (tVar 9) [9]) (tLst tNil))))) (tsRet (tC (.bl false))) tsNil)
    (tsSeq (tsIf (tTest (tBin qNe (tCall 2 (c .f_both_of) (tCons (tVar 2) (tCons (tVar 3) tNil))) (tLc (tiAny (tVar 2)) (hN 9) (tTest (tBin qIn (tVar 9) (tVar 3))) (tVar 9) [9]))) (tsRet (tC (.bl false))) tsNil)
    (tsRet (tAndV (tBin qEq (tCall 2 (c .f_joined) (tCons (tVar 2) (tCons (tVar 3) tNil))) (tSS (tBin qAdd (tVar 2) (tVar 3)))) (tCall 2 (c .f_is_less) (tCons (tVar 2) (tCons (tVar 2) tNil))))))))))))))))
theorem lst_f_law (c c2 : CF → Fn) (l l2 : LF → Fn) : SndS none none (b_f_law c c2 l l2) (lt_f_law (fun g => tv (c g)) (fun g => tv (l g)) (ov c) (ov c2)) := by
  unfold b_f_law lt_f_law
  exact (ss_seq (ss_asg (snd_bin sq_get (snd_lst (snd_cons (snd_tup snd_nil) (snd_cons (snd_tup (snd_cons snd_str snd_nil)) (snd_cons (snd_tup (snd_cons snd_str (snd_cons snd_str snd_nil))) snd_nil)))) (snd_call (tv_T _) (snd_cons snd_var (snd_cons snd_int (snd_cons snd_int snd_nil))))) (sg_name 1))
    (ss_seq (ss_asg (snd_call (tv_T _) (snd_cons snd_var (snd_cons snd_int (snd_cons snd_var snd_nil)))) (sg_name 2))
    (ss_seq (ss_asg (snd_call (tv_T _) (snd_cons snd_var (snd_cons snd_int (snd_cons snd_var snd_nil)))) (sg_name 3))
    (ss_seq (ss_own 4 (snd_slL snd_var) (fresh_slL snd_var))
    (ss_seq (ss_rel (ss_if (snd_test (snd_bin sq_ne (snd_var (j := some 4) (i := 2)) (snd_lst snd_nil))) (ss_seq (ss_asg (snd_call (tv_T _) (snd_cons (snd_var (j := some 4) (i := 0)) (snd_cons snd_int (snd_cons (snd_fn sf_len (snd_cons (snd_var (j := some 4) (i := 2)) snd_nil)) snd_nil)))) (sg_name (j := some 4) 5))
    (ss_put (snd_var (j := some 4) (i := 5)) (snd_call (tv_T _) (snd_cons (snd_bin sq_get (snd_var (j := some 4) (i := 2)) (snd_var (j := some 4) (i := 5))) (snd_cons (snd_call (tv_T _) (snd_cons (snd_var (j := some 4) (i := 0)) (snd_cons snd_int (snd_cons (snd_bin sq_pow snd_int snd_int) snd_nil)))) (snd_cons (snd_call (tv_T _) (snd_cons (snd_var (j := some 4) (i := 0)) (snd_cons snd_int (snd_cons snd_int snd_nil)))) snd_nil)))))) ss_nil))
    (ss_seq (ss_asg (snd_lst (snd_cons snd_var (snd_cons snd_var (snd_cons (snd_rev snd_var) (snd_cons (snd_fn sf_tuple (snd_cons snd_var snd_nil)) (snd_cons (snd_bin sq_add snd_var (snd_sl snd_var snd_noPart (snd_part snd_int))) (snd_cons (snd_lst (snd_cons (snd_tup (snd_cons snd_str (snd_cons snd_str snd_nil))) snd_nil)) (snd_cons (snd_lst (snd_cons (snd_tup (snd_cons snd_str (snd_cons snd_str snd_nil))) snd_nil)) (snd_cons (snd_lst (snd_cons (snd_tup (snd_cons snd_str (snd_cons snd_str snd_nil))) snd_nil)) snd_nil))))))))) (sg_name 6))
    (ss_seq (ss_asg (snd_bin sq_add snd_var (snd_lst (snd_cons (snd_lst (snd_cons (snd_tup (snd_cons snd_str (snd_cons snd_str snd_nil))) snd_nil)) (snd_cons (snd_lst (snd_cons (snd_tup (snd_cons snd_str (snd_cons snd_str snd_nil))) snd_nil)) (snd_cons (snd_lst (snd_cons (snd_tup (snd_cons snd_str snd_nil)) snd_nil)) (snd_cons (snd_lst (snd_cons (snd_tup (snd_cons snd_str (snd_cons snd_str (snd_cons snd_str snd_nil)))) snd_nil)) (snd_cons (snd_lst (snd_cons (snd_tup (snd_cons snd_str snd_nil)) (snd_cons (snd_tup (snd_cons snd_str snd_nil)) snd_nil))) (snd_cons (snd_lst (snd_cons (snd_tup (snd_cons snd_str snd_nil)) snd_nil)) snd_nil)))))))) (sg_name 6))
    (ss_seq (ss_for (si_any (snd_bin sq_add snd_var (snd_lst (snd_cons (snd_call (tv_T _) (snd_cons (snd_call (tv_T _) (snd_cons snd_var (snd_cons snd_int (snd_cons snd_int snd_nil)))) snd_nil)) snd_nil)))) (sg_name 7) (ss_seq (ss_asg (snd_call (tv_T _) (snd_cons snd_var (snd_cons snd_var snd_nil))) (sg_name 8))
    (ss_if (snd_or (snd_not (snd_test (snd_isi snd_var))) (snd_test (snd_bin sq_ne snd_var (snd_call (tv_T _) (snd_cons snd_var (snd_cons snd_var snd_nil)))))) (ss_ret snd_bl) ss_nil)))
    (ss_seq (ss_asg (snd_call (tv_T _) (snd_cons snd_var (snd_cons snd_var snd_nil))) (sg_name 8))
    (ss_seq (ss_if (snd_or (snd_not (snd_test (snd_isi snd_var))) (snd_test (snd_bin sq_ne snd_var (snd_bin sq_eq (snd_lc (si_any snd_var) (sg_name 9) (snd_test (snd_bin sq_notIn snd_var snd_var)) snd_var) (snd_lst snd_nil))))) (ss_ret snd_bl) ss_nil)
    (ss_seq (ss_if (snd_test (snd_bin sq_ne (snd_call (tv_T _) (snd_cons snd_var (snd_cons snd_var snd_nil))) (snd_lc (si_any snd_var) (sg_name 9) (snd_test (snd_bin sq_in snd_var snd_var)) snd_var))) (ss_ret snd_bl) ss_nil)
    (ss_ret (snd_andV (snd_bin sq_eq (snd_call (tv_T _) (snd_cons snd_var (snd_cons snd_var snd_nil))) (snd_ss (snd_bin sq_add snd_var snd_var))) (snd_call (tv_T _) (snd_cons snd_var (snd_cons snd_var snd_nil))))))))))))))))
theorem lq_f_law {n : Nat} {ts : List T} {r : RT T} (e : trun 1 10 (lt_f_law (fun g => tv (csem (n + 1) g)) (fun g => tv (lsem (n + 1) g)) (ov (csem (n + 1))) (ov (csem n))) ts = r) (hr : r ≠ .bad) : tv (lsem (n + 2) .f_law) ts = r := tv_of (by rw [ls_f_law]; exact fn_T (lst_f_law _ _ _ _)) e hr
end Lk30

set_option Elab.async false
set_option linter.all false
set_option maxRecDepth 100000
set_option maxHeartbeats 1000000
namespace Lk30
open PySem DL
open KS (rise tLt ord_tup mem_rise Rising rising_rise)
def HS3 : List (List Str) := [[], ["f"], ["f", "g1"]]
theorem hs3_sub : ∀ hs ∈ HS3, ∀ x ∈ hs, x ∈ (["f", "g1"] : List Str) := by decide +kernel
def KOk (hs : List Str) (u : T) : Prop := ∃ b, tv (csem 230 .f_is_kind) [u, tstrs hs] = .ok (.bl b) ∧ tv (csem 230 .f__law_is_kind) [u, tstrs hs] = .ok (.bl b)
def nilB : T → Bool
  | .lst [] => true
  | _ => false
theorem odd_lst : oddL.all (fun t => !lstB t || nilB t) = true := by decide +kernel
section
variable {hs : List Str} (sub : ∀ x ∈ hs, x ∈ (["f", "g1"] : List Str))
include sub
theorem ok_marks {M : List Mk} (hM : ∀ m ∈ M, m ∈ everyM hs) (hl : M.length ≤ 90) : KOk hs (lm M) := ⟨_, kind_marks sub hM hl (by decide)⟩
theorem ok_put {K : List Mk} (hK : ∀ m ∈ K, m ∈ everyM hs) (hl : K.length ≤ 80) {j : Nat} (hj : j < K.length) {t : T} (ht : t ∈ CL) : KOk hs (.lst ((K.map unX).set j t)) := by
  cases hm : isMb hs t with
  | true =>
    obtain ⟨q, hq, rfl⟩ := isMb_mark hm
    rw [← List.map_set]
    refine ok_marks sub (fun m h => ?_) (by rw [List.length_set]; omega)
    rcases List.mem_or_eq_of_mem_set h with h | h
    · exact hK m h
    · rw [h]; exact hq
  | false =>
    have e : (K.map unX).set j t = (K.take j).map unX ++ t :: (K.drop (j + 1)).map unX := by
      rw [List.set_eq_take_append_cons_drop, if_pos (by simpa using hj), List.map_take, List.map_drop]
    rw [e]
    exact ⟨_, kind_bad sub (fun m h => hK m (List.mem_of_mem_take h)) (fun m h => hK m (List.mem_of_mem_drop h)) ht hm (by simp; omega) (by decide)⟩
theorem ok_one {t : T} (ht : t ∈ CL) : KOk hs (.lst [t]) := by
  cases hm : isMb hs t with
  | true =>
    obtain ⟨q, hq, rfl⟩ := isMb_mark hm
    exact ok_marks sub (M := [q]) (fun m h => by rw [List.mem_singleton.mp h]; exact hq) (by simp)
  | false => exact ⟨_, kind_bad sub (A := []) (B := []) (by simp) (by simp) ht hm (by simp) (by decide)⟩
theorem ok_none {t : T} (h : lstB t = false) : KOk hs t := ⟨_, kind_none sub h (by decide)⟩
theorem ok_odd {t : T} (ht : t ∈ oddL) : KOk hs t := by
  have h := List.all_eq_true.mp odd_lst t ht
  cases hl : lstB t with
  | false => exact ok_none sub hl
  | true =>
    rw [hl] at h
    have h : nilB t = true := h
    have e : t = lm [] := by
      unfold nilB at h
      split at h
      · rfl
      · cases h
    rw [e]
    exact ok_marks sub (by simp) (by simp)
theorem ok_extra {t : T} (h : t ∈ extraL) : KOk hs (.lst [t]) := ok_one sub (List.mem_append_right _ h)
end
theorem every_two : ∀ hs ∈ HS3, ∀ m ∈ everyM hs, m.length = 1 ∨ m.length = 2 := by decide +kernel
theorem every_all3 : ∀ hs ∈ HS3, ∀ m ∈ everyM hs, m ∈ allM := by decide +kernel
theorem pow6 : qPow (.int 10) (.int 6) = .ok (.int 1000000) := by
  rw [qPow_eq]
  rfl
theorem cut_all {ts : List T} : cutT ts none none = ts := by
  unfold cutT
  rw [HT.sIx_none, HT.sIx_none]
  simp
theorem law_T (ns : List Int) (hl : ns.length ≤ 63) : tv (lsem 231 .f_law) [tscr ns] = .ok (.bl true) := by
  have d0 := drawn_T 230 ns 0 3 (by decide) (by decide) hl
  have a0 := drw_lo ns 0 (m := 3) (by decide)
  have b0 := drw_hi ns 0 (m := 3) (by decide)
  obtain ⟨hs, hhs, eh⟩ : ∃ hs, hs ∈ HS3 ∧ qGet (.lst [.tup [], .tup [.str "f"], .tup [.str "f", .str "g1"]]) (.int (drw ns 0 3)) = .ok (tstrs hs) := by
    generalize drw ns 0 3 = j at a0 b0
    have : j = 0 ∨ j = 1 ∨ j = 2 := by omega
    rcases this with rfl | rfl | rfl
    · exact ⟨[], by decide +kernel, rfl⟩
    · exact ⟨["f"], by decide +kernel, rfl⟩
    · exact ⟨["f", "g1"], by decide +kernel, rfl⟩
  have sub := hs3_sub hs hhs
  obtain ⟨K, k1, kr1, ks1, kl1⟩ := kind_T 230 (ns := ns) (t := 1) hl (by decide) (hs := hs) hhs
  obtain ⟨L, k2, kr2, ks2, kl2⟩ := kind_T 230 (ns := ns) (t := 20) hl (by decide) (hs := hs) hhs
  have iK : ∀ m ∈ K, m ∈ allM := fun m hm => every_all3 hs hhs m (ks1 m hm)
  have iL : ∀ m ∈ L, m ∈ allM := fun m hm => every_all3 hs hhs m (ks2 m hm)
  have k1' : tv (csem 230 .f__law_kind) [tscr ns, .int 1, tstrs hs] = .ok (lm K) := k1
  have k2' : tv (csem 230 .f__law_kind) [tscr ns, .int 20, tstrs hs] = .ok (lm L) := k2
  refine lq_f_law (n := 229) ?_ (by simp)
  refine t_run rfl ?_
  unfold lt_f_law
  refine t_asg (t := tstrs hs) ?_ rfl ?_
  · have e1 : tLst (tCons (tTup tNil) (tCons (tTup (tCons (tC (.str "f")) tNil)) (tCons (tTup (tCons (tC (.str "f")) (tCons (tC (.str "g1")) tNil))) tNil))) [some (tscr ns), none, none, none, none, none, none, none, none, none] = .ok (.lst [.tup [], .tup [.str "f"], .tup [.str "f", .str "g1"]]) := rfl
    show tBin qGet _ _ [some (tscr ns), none, none, none, none, none, none, none, none, none] = _
    rw [te_bin, e1, RT.bind_ok]
    simp only [te_call, te_cons, te_nil, te_C]
    rw [te_V (t := tscr ns) rfl]
    simp only [RT.bind_ok, List.length_cons, List.length_nil, Nat.zero_add, Nat.reduceAdd, if_true, d0]
    exact eh
  refine t_asg (t := lm K) (by simp [k1']) rfl ?_
  refine t_asg (t := lm L) (by simp [k2']) rfl ?_
  simp only [List.map_cons, List.map_nil, List.cons_append, List.nil_append, List.replicate, Nat.reduceSub, List.set_cons_succ, List.set_cons_zero, List.length_cons, List.length_nil]
  refine t_own (t := lm K) ?_ (by simp) ?_
  · unfold tSlL
    rw [te_V (t := lm K) rfl, RT.bind_ok]
    show qSl (.lst (K.map unX)) none none = _
    rw [q_slL, if_pos (okB_of (by rw [List.length_map]; omega)), cut_all]
    rfl
  simp only [List.set_cons_succ, List.set_cons_zero]
  -- spoilt
  have key : ∀ {u : TSDen}, (∀ (j : Nat), j < K.length → ∃ t z, t ∈ CL ∧ u [some (tscr ns), some (tstrs hs), some (lm K), some (lm L), some (lm K), none, none, none, none, none] = .ok (.nx [some (tscr ns), some (tstrs hs), some (lm K), some (lm L), some (.lst ((K.map unX).set j t)), z, none, none, none, none])) ∨ True → True := fun _ => trivial
  clear key
  have cn : tTest (tBin qNe (tVar 2) (tLst tNil)) [some (tscr ns), some (tstrs hs), some (lm K), some (lm L), some (lm K), none, none, none, none, none] = .ok (!decide (K = [])) := by
    simp only [te_test, te_bin, te_lst, te_nil]
    rw [te_V (t := lm K) rfl]
    simp only [RT.bind_ok, List.length_nil, okB_0, if_true]
    by_cases q : K = []
    · have nil_q : qNe (lm []) (.lst []) = .ok (.bl false) := qNe_same (t := .lst []) (FineK.lst (k := 37) (.nil _)) rfl
      rw [q, nil_q]; rfl
    · rw [qNe_not (fine_lm iK) (FineK.lst (k := 37) (.nil _)) (fun z => q (by unfold lm at z; injection z with z; exact List.map_eq_nil_iff.mp z)), decide_eq_false q]
      rfl
  have part : ∃ (L4 : List T) (z5 : Option T), KOk hs (.lst L4) ∧ L4.length ≤ 12 ∧
      tsIf (tTest (tBin qNe (tVar 2) (tLst tNil))) (tsSeq (tsAsg (tCall 3 (tv (csem (229 + 1) .f__law_drawn)) (tCons (tVar 0) (tCons (tC (.int 40)) (tCons (tFn qLen (tCons (tVar 2) tNil)) tNil)))) (hN 5))
    (tsPut 4 (tVar 5) (tCall 3 (tv (csem (229 + 1) .f__law_spoilt)) (tCons (tBin qGet (tVar 2) (tVar 5)) (tCons (tCall 3 (tv (csem (229 + 1) .f__law_drawn)) (tCons (tVar 0) (tCons (tC (.int 41)) (tCons (tBin qPow (tC (.int 10)) (tC (.int 6))) tNil)))) (tCons (tCall 3 (tv (csem (229 + 1) .f__law_drawn)) (tCons (tVar 0) (tCons (tC (.int 42)) (tCons (tC (.int 3)) tNil)))) tNil)))))) tsNil
        [some (tscr ns), some (tstrs hs), some (lm K), some (lm L), some (lm K), none, none, none, none, none] = .ok (.nx [some (tscr ns), some (tstrs hs), some (lm K), some (lm L), some (.lst L4), z5, none, none, none, none]) := by
    by_cases q : K = []
    · rw [decide_eq_true q] at cn
      exact ⟨K.map unX, none, ok_marks sub ks1 (by omega), by rw [List.length_map]; exact kl1, t_if (b := false) cn (by rw [if_neg (by decide)]; rfl)⟩
    · rw [decide_eq_false q] at cn
      have pos : 0 < K.length := List.length_pos_iff.mpr q
      have d40 := drawn_T 230 ns 40 (K.length : Nat) (by decide) (by omega) hl
      have d41 := drawn_T 230 ns 41 1000000 (by decide) (by decide) hl
      have d42 := drawn_T 230 ns 42 3 (by decide) (by decide) hl
      have lo40 := drw_lo ns 40 (m := (K.length : Nat)) (by omega)
      have hi40 := drw_hi ns 40 (m := (K.length : Nat)) (by omega)
      have lo41 := drw_lo ns 41 (m := 1000000) (by decide)
      have lo42 := drw_lo ns 42 (m := 3) (by decide)
      generalize drw ns 40 (K.length : Nat) = x40 at d40 lo40 hi40
      generalize drw ns 41 1000000 = x41 at d41 lo41
      generalize drw ns 42 3 = x42 at d42 lo42
      obtain ⟨j, rfl⟩ : ∃ j : Nat, x40 = (j : Nat) := ⟨x40.toNat, by omega⟩
      obtain ⟨k, rfl⟩ : ∃ j : Nat, x41 = (j : Nat) := ⟨x41.toNat, by omega⟩
      obtain ⟨dp, rfl⟩ : ∃ j : Nat, x42 = (j : Nat) := ⟨x42.toNat, by omega⟩
      have hj : j < K.length := by omega
      obtain ⟨m, hm⟩ : ∃ m, K[j]? = some m := ⟨_, List.getElem?_eq_getElem hj⟩
      have mK := ks1 m (List.mem_of_getElem? hm)
      obtain ⟨t, ht, es⟩ := spoil_mark (n := 230) (k := k) (dp := dp) (every_two hs hhs m mK) (by decide)
      have tC_ : t ∈ CL := spoil_CL sub mK ht
      have gm : qGet (lm K) (.int (j : Nat)) = .ok (unX m) := get_L (by rw [List.getElem?_map, hm]; rfl)
      have lenK : qLen [lm K] = .ok (.int (K.length : Nat)) := by unfold lm; rw [q_lenL, List.length_map]
      refine ⟨(K.map unX).set j t, some (.int (j : Nat)), ok_put sub ks1 (by omega) hj tC_, by rw [List.length_set, List.length_map]; exact kl1, t_if (b := true) cn ?_⟩
      rw [if_pos rfl]
      refine t_asg (t := .int (j : Nat)) (by simp [lenK, d40]) rfl ?_
      simp only [List.set_cons_succ, List.set_cons_zero]
      have ev : (tCall 3 (tv (csem (229 + 1) .f__law_spoilt)) (tCons (tBin qGet (tVar 2) (tVar 5)) (tCons (tCall 3 (tv (csem (229 + 1) .f__law_drawn)) (tCons (tVar 0) (tCons (tC (.int 41)) (tCons (tBin qPow (tC (.int 10)) (tC (.int 6))) tNil)))) (tCons (tCall 3 (tv (csem (229 + 1) .f__law_drawn)) (tCons (tVar 0) (tCons (tC (.int 42)) (tCons (tC (.int 3)) tNil)))) tNil)))) [some (tscr ns), some (tstrs hs), some (lm K), some (lm L), some (lm K), some (.int (j : Nat)), none, none, none, none] = .ok t := by
        simp [gm, pow6, d41, d42, es]
      unfold tsPut
      rw [ev]
      have ix : L2.ixN (K.map unX).length ((j : Nat) : Int) = some j := by
        unfold L2.ixN
        simp
        omega
      simp only [tsE]
      rw [te_V (t := .int (j : Nat)) rfl]
      simp only [tsE]
      show (match L2.ixN (K.map unX).length ((j : Nat) : Int) with
        | some l => RT.ok (TFl.nx _)
        | none => .bad) = _
      rw [ix]
      rfl
  obtain ⟨L4, z5, ok4, l4, ep⟩ := part
  refine t_seq ep ?_
  clear ep cn
  have lK9 : (K.map unX).length ≤ 12 := by rw [List.length_map]; exact kl1
  have e3 : tRev (tVar 2) [some (tscr ns), some (tstrs hs), some (lm K), some (lm L), some (.lst L4), z5, none, none, none, none] = .ok (lm K.reverse) := by
    unfold tRev
    rw [te_V (t := lm K) rfl, RT.bind_ok]
    show RT.ok (T.lst (K.map unX).reverse) = _
    rw [← List.map_reverse]
    rfl
  have e5 : (tBin qAdd (tVar 2) (tSl (tVar 2) tNoPart (tPart (tC (.int 1))))) [some (tscr ns), some (tstrs hs), some (lm K), some (lm L), some (.lst L4), z5, none, none, none, none] = .ok (lm (K ++ K.take 1)) := by
    simp only [te_bin, te_sl, te_noPart, te_part, te_C]
    rw [te_V (t := lm K) rfl]
    simp only [RT.bind_ok, asI_int]
    unfold lm
    have z := cut_lo' (ts := K.map unX) (k := 1)
    have z' : cutT (K.map unX) none (some 1) = (K.map unX).take 1 := z
    rw [q_slL, if_pos (okB_of (by omega)), z', RT.bind_ok, q_addL, if_pos (okB_of (by rw [List.length_append, List.length_take]; omega)), List.map_append, List.map_take]
  refine t_asg (t := .lst [lm K, .lst L4, lm K.reverse, .tup (K.map unX), lm (K ++ K.take 1), .lst [.tup [.str "do", .str "f"]], .lst [.tup [.str "read", .str "ab"]], .lst [.tup [.str "read", .str "p"]]]) ?_ rfl ?_
  · rw [te_lst, te_cons, te_cons, te_cons, te_cons, te_cons, te_cons, te_cons, te_cons, te_nil, e3, e5]
    rfl
  simp only [List.set_cons_succ, List.set_cons_zero]
  refine t_asg (t := .lst ([lm K, .lst L4, lm K.reverse, .tup (K.map unX), lm (K ++ K.take 1), .lst [.tup [.str "do", .str "f"]], .lst [.tup [.str "read", .str "ab"]], .lst [.tup [.str "read", .str "p"]]] ++
    [.lst [.tup [.str "xx", .str "a"]], .lst [.tup [.str "say", .str "a"]], .lst [.tup [.str "read"]], .lst [.tup [.str "read", .str "a", .str "b"]], lm [mA, mS], .lst [.tup [.str "do"]]])) ?_ rfl ?_
  · rw [te_bin, te_V (t := .lst [lm K, .lst L4, lm K.reverse, .tup (K.map unX), lm (K ++ K.take 1), .lst [.tup [.str "do", .str "f"]], .lst [.tup [.str "read", .str "ab"]], .lst [.tup [.str "read", .str "p"]]]) rfl, RT.bind_ok]
    rfl
  simp only [List.set_cons_succ, List.set_cons_zero]
  have d43 := drawn_T 230 ns 43 26 (by decide) (by decide) hl
  have lo43 := drw_lo ns 43 (m := 26) (by decide)
  generalize drw ns 43 26 = x43 at d43 lo43
  obtain ⟨k43, rfl⟩ : ∃ j : Nat, x43 = (j : Nat) := ⟨x43.toNat, by omega⟩
  obtain ⟨to, hto, eo⟩ := odd_T (n := 230) (k := k43) (by decide)
  have hitems : ∀ u ∈ ([lm K, .lst L4, lm K.reverse, .tup (K.map unX), lm (K ++ K.take 1), .lst [.tup [.str "do", .str "f"]], .lst [.tup [.str "read", .str "ab"]], .lst [.tup [.str "read", .str "p"]]] ++
      [.lst [.tup [.str "xx", .str "a"]], .lst [.tup [.str "say", .str "a"]], .lst [.tup [.str "read"]], .lst [.tup [.str "read", .str "a", .str "b"]], lm [mA, mS], .lst [.tup [.str "do"]]]) ++ [to], KOk hs u := fun u hu => by
    simp only [List.mem_append, List.mem_cons, List.not_mem_nil, or_false] at hu
    rcases hu with ((rfl | rfl | rfl | rfl | rfl | rfl | rfl | rfl) | (rfl | rfl | rfl | rfl | rfl | rfl)) | rfl
    · exact ok_marks sub ks1 (by omega)
    · exact ok4
    · exact ok_marks sub (fun m hm => ks1 m (List.mem_reverse.mp hm)) (by rw [List.length_reverse]; omega)
    · exact ok_none sub rfl
    · exact ok_marks sub (fun m hm => (List.mem_append.mp hm).elim (ks1 m) fun h => ks1 m (List.mem_of_mem_take h)) (by rw [List.length_append, List.length_take]; omega)
    · exact ok_extra sub (by simp [extraL])
    · exact ok_extra sub (by simp [extraL])
    · exact ok_extra sub (by simp [extraL])
    · exact ok_extra sub (by simp [extraL])
    · exact ok_extra sub (by simp [extraL])
    · exact ok_extra sub (by simp [extraL])
    · exact ok_extra sub (by simp [extraL])
    · refine ok_marks sub (fun m hm => ?_) (by simp)
      simp only [List.mem_cons, List.not_mem_nil, or_false] at hm
      rcases hm with rfl | rfl
      · exact every_iff.mpr (.inl rfl)
      · exact every_iff.mpr (.inr (.inl rfl))
    · exact ok_extra sub (by simp [extraL])
    · exact ok_odd sub hto
  have it : tiAny (tBin qAdd (tVar 6) (tLst (tCons (tCall 1 (tv (csem (229 + 1) .f__law_odd)) (tCons (tCall 3 (tv (csem (229 + 1) .f__law_drawn)) (tCons (tVar 0) (tCons (tC (.int 43)) (tCons (tC (.int 26)) tNil)))) tNil)) tNil))) [some (tscr ns), some (tstrs hs), some (lm K), some (lm L), some (.lst L4), z5, some (.lst ([lm K, .lst L4, lm K.reverse, .tup (K.map unX), lm (K ++ K.take 1), .lst [.tup [.str "do", .str "f"]], .lst [.tup [.str "read", .str "ab"]], .lst [.tup [.str "read", .str "p"]]] ++
      [.lst [.tup [.str "xx", .str "a"]], .lst [.tup [.str "say", .str "a"]], .lst [.tup [.str "read"]], .lst [.tup [.str "read", .str "a", .str "b"]], lm [mA, mS], .lst [.tup [.str "do"]]])), none, none, none] = .ok (([lm K, .lst L4, lm K.reverse, .tup (K.map unX), lm (K ++ K.take 1), .lst [.tup [.str "do", .str "f"]], .lst [.tup [.str "read", .str "ab"]], .lst [.tup [.str "read", .str "p"]]] ++
      [.lst [.tup [.str "xx", .str "a"]], .lst [.tup [.str "say", .str "a"]], .lst [.tup [.str "read"]], .lst [.tup [.str "read", .str "a", .str "b"]], lm [mA, mS], .lst [.tup [.str "do"]]]) ++ [to]) := by
    refine ti_any ?_ (.inl rfl)
    have eo' : (tCall 1 (tv (csem (229 + 1) .f__law_odd)) (tCons (tCall 3 (tv (csem (229 + 1) .f__law_drawn)) (tCons (tVar 0) (tCons (tC (.int 43)) (tCons (tC (.int 26)) tNil)))) tNil)) [some (tscr ns), some (tstrs hs), some (lm K), some (lm L), some (.lst L4), z5, some (.lst ([lm K, .lst L4, lm K.reverse, .tup (K.map unX), lm (K ++ K.take 1), .lst [.tup [.str "do", .str "f"]], .lst [.tup [.str "read", .str "ab"]], .lst [.tup [.str "read", .str "p"]]] ++
      [.lst [.tup [.str "xx", .str "a"]], .lst [.tup [.str "say", .str "a"]], .lst [.tup [.str "read"]], .lst [.tup [.str "read", .str "a", .str "b"]], lm [mA, mS], .lst [.tup [.str "do"]]])), none, none, none] = .ok to := by
      simp only [te_call, te_cons, te_nil, te_C]
      rw [te_V (t := tscr ns) rfl]
      simp only [RT.bind_ok, List.length_cons, List.length_nil, Nat.zero_add, Nat.reduceAdd, if_true, d43]
      exact eo
    have hP0 : (14 : Nat) = ([lm K, .lst L4, lm K.reverse, .tup (K.map unX), lm (K ++ K.take 1), .lst [.tup [.str "do", .str "f"]], .lst [.tup [.str "read", .str "ab"]], .lst [.tup [.str "read", .str "p"]]] ++
      [.lst [.tup [.str "xx", .str "a"]], .lst [.tup [.str "say", .str "a"]], .lst [.tup [.str "read"]], .lst [.tup [.str "read", .str "a", .str "b"]], lm [mA, mS], .lst [.tup [.str "do"]]]).length := rfl
    generalize ([lm K, .lst L4, lm K.reverse, .tup (K.map unX), lm (K ++ K.take 1), .lst [.tup [.str "do", .str "f"]], .lst [.tup [.str "read", .str "ab"]], .lst [.tup [.str "read", .str "p"]]] ++
      [.lst [.tup [.str "xx", .str "a"]], .lst [.tup [.str "say", .str "a"]], .lst [.tup [.str "read"]], .lst [.tup [.str "read", .str "a", .str "b"]], lm [mA, mS], .lst [.tup [.str "do"]]]) = P at eo' hP0 ⊢
    have hP := hP0.symm
    rw [te_bin, te_V (t := .lst P) rfl, RT.bind_ok, te_lst, te_cons, eo', RT.bind_ok, te_nil, RT.bind_ok, RT.bind_ok]
    have o1 : okB [to].length = true := okB_of (show 1 ≤ 1000 by decide)
    rw [if_pos o1, RT.bind_ok, q_addL, if_pos (okB_of (by rw [List.length_append, hP]; show 15 ≤ 1000; decide))]
  generalize ([lm K, .lst L4, lm K.reverse, .tup (K.map unX), lm (K ++ K.take 1), .lst [.tup [.str "do", .str "f"]], .lst [.tup [.str "read", .str "ab"]], .lst [.tup [.str "read", .str "p"]]] ++
      [.lst [.tup [.str "xx", .str "a"]], .lst [.tup [.str "say", .str "a"]], .lst [.tup [.str "read"]], .lst [.tup [.str "read", .str "a", .str "b"]], lm [mA, mS], .lst [.tup [.str "do"]]]) = P at *
  have loop : ∀ {u : TSDen}, (∀ (t : T) (z7 z8 z9 : Option T), KOk hs t → Nx (fun τ => ∃ z7 z8 z9, τ = [some (tscr ns), some (tstrs hs), some (lm K), some (lm L), some (.lst L4), z5, some (.lst P), z7, z8, z9]) (u [some (tscr ns), some (tstrs hs), some (lm K), some (lm L), some (.lst L4), z5, some (.lst P), some t, z8, z9])) →
      Nx (fun τ => ∃ z7 z8 z9, τ = [some (tscr ns), some (tstrs hs), some (lm K), some (lm L), some (.lst L4), z5, some (.lst P), z7, z8, z9]) (tForL (hN 7) u (P ++ [to]) [some (tscr ns), some (tstrs hs), some (lm K), some (lm L), some (.lst L4), z5, some (.lst P), none, none, none]) := fun {u} hu =>
    t_forN (fun t ht τ ⟨z7, z8, z9, e⟩ => by
      subst e
      exact ⟨_, rfl, hu t z7 z8 z9 (hitems t ht)⟩) ⟨none, none, none, rfl⟩
  have seq : ∀ {u w : TSDen}, (∀ (t : T) (z7 z8 z9 : Option T), KOk hs t → Nx (fun τ => ∃ z7 z8 z9, τ = [some (tscr ns), some (tstrs hs), some (lm K), some (lm L), some (.lst L4), z5, some (.lst P), z7, z8, z9]) (u [some (tscr ns), some (tstrs hs), some (lm K), some (lm L), some (.lst L4), z5, some (.lst P), some t, z8, z9])) →
      (∀ (z7 z8 z9 : Option T), w [some (tscr ns), some (tstrs hs), some (lm K), some (lm L), some (.lst L4), z5, some (.lst P), z7, z8, z9] = .ok (.rt (.bl true))) →
      tsSeq (tsFor (tiAny (tBin qAdd (tVar 6) (tLst (tCons (tCall 1 (tv (csem (229 + 1) .f__law_odd)) (tCons (tCall 3 (tv (csem (229 + 1) .f__law_drawn)) (tCons (tVar 0) (tCons (tC (.int 43)) (tCons (tC (.int 26)) tNil)))) tNil)) tNil)))) (hN 7) u) w [some (tscr ns), some (tstrs hs), some (lm K), some (lm L), some (.lst L4), z5, some (.lst P), none, none, none] = .ok (.rt (.bl true)) := fun {u w} hu hw => by
    obtain ⟨τ', e, z7, z8, z9, rfl⟩ := loop hu
    exact t_seq (t_for it e) (hw z7 z8 z9)
  refine seq (fun t z7 z8 z9 hk => ?_) fun z7 z8 z9 => ?_
  · obtain ⟨b, h1, h2⟩ := hk
    refine nx_eq (t_asg (t := .bl b) (by
      simp only [te_call, te_cons, te_nil]
      rw [te_V (t := t) rfl, te_V (t := tstrs hs) rfl]
      exact h1) rfl rfl) ?_
    simp only [List.set_cons_succ, List.set_cons_zero]
    refine nx_eq (t_if (b := false) (or_f (not_f (isi_bool (b := b) rfl)) (ne_bl (a := b) (b := b) rfl (by
      simp only [te_call, te_cons, te_nil]
      rw [te_V (t := t) rfl, te_V (t := tstrs hs) rfl]
      exact h2) rfl)) rfl) (nx_end (by rw [if_neg (by decide)]; rfl) ⟨_, _, _, rfl⟩)
  · have l1 := is_less_T iK iL (by omega) (n := 230) (by omega)
    have l2 := is_less_T iK iK (by omega) (n := 230) (by omega)
    rw [less_iff.mpr fun m h => h] at l2
    have b1 := both_T iK iL (by omega) (n := 230) (by omega)
    have j1 := joined_T iK iL (by omega) (by omega) (n := 230) (by omega)
    have iF : ∀ m ∈ K.filter (fun m => decide (m ∈ L)), m ∈ allM := fun m hm => iK m (List.mem_filter.mp hm).1
    refine t_asg (t := .bl (lessM K L)) (by simp [l1]) rfl ?_
    simp only [List.set_cons_succ, List.set_cons_zero]
    have c1 := fun (z7 z8 z9 : Option T) => t_lc (τ := [some (tscr ns), some (tstrs hs), some (lm K), some (lm L), some (.lst L4), z5, some (.lst P), z7, z8, z9]) (it := tiAny (tVar 2)) (g := hN 9) (c := tTest (tBin qNotIn (tVar 9) (tVar 3))) (e := tVar 9) (vs := [9])
      (l := K) (m := unX) (k := fun q => !decide (q ∈ L)) (f := unX) (ti_any (l := lm K) rfl (.inl rfl)) (fun q hq => ⟨_, rfl, by
        have e := qNotIn_lm (sok_all q (iK q hq)) iL
        simp [twipe, e], fun _ => by simp [twipe]⟩) (by omega)
    have c2 := fun (z7 z8 z9 : Option T) => t_lc (τ := [some (tscr ns), some (tstrs hs), some (lm K), some (lm L), some (.lst L4), z5, some (.lst P), z7, z8, z9]) (it := tiAny (tVar 2)) (g := hN 9) (c := tTest (tBin qIn (tVar 9) (tVar 3))) (e := tVar 9) (vs := [9])
      (l := K) (m := unX) (k := fun q => decide (q ∈ L)) (f := unX) (ti_any (l := lm K) rfl (.inl rfl)) (fun q hq => ⟨_, rfl, by
        have e := qIn_lm (sok_all q (iK q hq)) iL
        simp [twipe, e], fun _ => by simp [twipe]⟩) (by omega)
    have q1 := eqNilM (L := K.filter fun m => !decide (m ∈ L)) (fun m hm => iK m (List.mem_filter.mp hm).1)
    have q1' : decide ((K.filter fun m => !decide (m ∈ L)) = []) = lessM K L := by
      rw [Bool.eq_iff_iff, decide_eq_true_eq, less_iff, List.filter_eq_nil_iff]
      simp
    rw [q1'] at q1
    refine t_skip (or_f (not_f (isi_bool (b := lessM K L) rfl)) (ne_bl (a := lessM K L) (b := lessM K L) rfl ?_ rfl)) ?_
    · rw [te_bin, c1, RT.bind_ok]
      simp only [te_lst, te_nil, RT.bind_ok, List.length_nil, okB_0, if_true]
      exact q1
    refine t_skip (ne_lm (a := K.filter fun m => decide (m ∈ L)) (b := K.filter fun m => decide (m ∈ L)) (by simp [b1]) (c2 _ _ _) rfl iF) (t_ret ?_)
    have ss := fun (z7 z8 z9 : Option T) => ss_lm (p := tBin qAdd (tVar 2) (tVar 3)) (τ := [some (tscr ns), some (tstrs hs), some (lm K), some (lm L), some (.lst L4), z5, some (.lst P), z7, z8, z9]) (a := K ++ L) (by
      simp only [te_bin]
      rw [te_V (t := lm K) rfl, te_V (t := lm L) rfl, RT.bind_ok, RT.bind_ok]
      exact lm_add (by omega)) (fun m hm => (List.mem_append.mp hm).elim (iK m) (iL m))
    have ej := eqM (L := rise tLt (K ++ L)) (K := rise tLt (K ++ L)) (fun m hm => (List.mem_append.mp ((mem_rise ord_tup).mp hm)).elim (iK m) (iL m)) (fun m hm => (List.mem_append.mp ((mem_rise ord_tup).mp hm)).elim (iK m) (iL m))
    rw [decide_eq_true rfl] at ej
    have e1 : (tBin qEq (tCall 2 (tv (csem (229 + 1) .f_joined)) (tCons (tVar 2) (tCons (tVar 3) tNil))) (tSS (tBin qAdd (tVar 2) (tVar 3)))) [some (tscr ns), some (tstrs hs), some (lm K), some (lm L), some (.lst L4), z5, some (.lst P), z7, some (.bl (lessM K L)), z9] = .ok (.bl true) := by
      rw [te_bin, ss]
      simp only [te_call, te_cons, te_nil]
      rw [te_V (t := lm K) rfl, te_V (t := lm L) rfl]
      simp only [RT.bind_ok, List.length_cons, List.length_nil, Nat.zero_add, Nat.reduceAdd, if_true, j1]
      exact ej
    unfold tAndV
    rw [e1, RT.bind_ok]
    show tCall 2 _ _ _ = _
    simp only [te_call, te_cons, te_nil]
    rw [te_V (t := lm K) rfl]
    simp only [RT.bind_ok, List.length_cons, List.length_nil, Nat.zero_add, Nat.reduceAdd, if_true]
    exact l2
theorem law_true (ns : List Int) (hl : ns.length ≤ 63) : ∃ S, lsem 231 .f_law [.seq (ns.map D.int)] [] = .ok (.bl true) S := law_end (law_T ns hl)
end Lk30

set_option Elab.async false
set_option linter.all false
set_option maxRecDepth 100000
set_option maxHeartbeats 0
namespace Lk30
open PySem L2 DL
def top (i : Nat) : Stmt := PySem.Challenge.pw_shelfwork_k30_kinds_known.main.body.getD i (.Pass ⟨0, 0, 0, 0⟩)
inductive Fid where
  | f_is_word
  | f_once
  | f_is_mark
  | f_is_kind
  | f_is_less
  | f_joined
  | f_both_of
  | f__law_cell
  | f__law_drawn
  | f__law_odd
  | f__law_spoilt
  | f__law_is_mark
  | f__law_is_kind
  | f__law_kind
  | f_law
def np : Fid → Nat
  | .f_is_word => 2
  | .f_once => 1
  | .f_is_mark => 2
  | .f_is_kind => 2
  | .f_is_less => 2
  | .f_joined => 2
  | .f_both_of => 2
  | .f__law_cell => 2
  | .f__law_drawn => 3
  | .f__law_odd => 1
  | .f__law_spoilt => 3
  | .f__law_is_mark => 2
  | .f__law_is_kind => 2
  | .f__law_kind => 3
  | .f_law => 1
def sem (n : Nat) : Fid → Fn
  | .f_is_word => csem n .f_is_word
  | .f_once => csem n .f_once
  | .f_is_mark => csem n .f_is_mark
  | .f_is_kind => csem n .f_is_kind
  | .f_is_less => csem n .f_is_less
  | .f_joined => csem n .f_joined
  | .f_both_of => csem n .f_both_of
  | .f__law_cell => csem n .f__law_cell
  | .f__law_drawn => csem n .f__law_drawn
  | .f__law_odd => csem n .f__law_odd
  | .f__law_spoilt => csem n .f__law_spoilt
  | .f__law_is_mark => csem n .f__law_is_mark
  | .f__law_is_kind => csem n .f__law_is_kind
  | .f__law_kind => csem n .f__law_kind
  | .f_law => lsem n .f_law
inductive Cid where
inductive Eid where
abbrev stm : Fid → Stmt
  | .f_is_word => top 3
  | .f_once => top 5
  | .f_is_mark => top 7
  | .f_is_kind => top 8
  | .f_is_less => top 9
  | .f_joined => top 10
  | .f_both_of => top 11
  | .f__law_cell => top 13
  | .f__law_drawn => top 14
  | .f__law_odd => top 15
  | .f__law_spoilt => top 16
  | .f__law_is_mark => top 17
  | .f__law_is_kind => top 18
  | .f__law_kind => top 19
  | .f_law => top 20
abbrev nam : Fid → Str
  | .f_is_word => "is_word"
  | .f_once => "once"
  | .f_is_mark => "is_mark"
  | .f_is_kind => "is_kind"
  | .f_is_less => "is_less"
  | .f_joined => "joined"
  | .f_both_of => "both_of"
  | .f__law_cell => "_law_cell"
  | .f__law_drawn => "_law_drawn"
  | .f__law_odd => "_law_odd"
  | .f__law_spoilt => "_law_spoilt"
  | .f__law_is_mark => "_law_is_mark"
  | .f__law_is_kind => "_law_is_kind"
  | .f__law_kind => "_law_kind"
  | .f_law => "law"
abbrev qua : Fid → Str
  | .f_is_word => "is_word"
  | .f_once => "once"
  | .f_is_mark => "is_mark"
  | .f_is_kind => "is_kind"
  | .f_is_less => "is_less"
  | .f_joined => "joined"
  | .f_both_of => "both_of"
  | .f__law_cell => "_law_cell"
  | .f__law_drawn => "_law_drawn"
  | .f__law_odd => "_law_odd"
  | .f__law_spoilt => "_law_spoilt"
  | .f__law_is_mark => "_law_is_mark"
  | .f__law_is_kind => "_law_is_kind"
  | .f__law_kind => "_law_kind"
  | .f_law => "law"
abbrev pas : Fid → List Str
  | .f_is_word => ["thing", "letters"]
  | .f_once => ["marks"]
  | .f_is_mark => ["thing", "handed"]
  | .f_is_kind => ["thing", "handed"]
  | .f_is_less => ["one", "other"]
  | .f_joined => ["one", "other"]
  | .f_both_of => ["one", "other"]
  | .f__law_cell => ["_law_script", "_law_k"]
  | .f__law_drawn => ["_law_script", "_law_k", "_law_many"]
  | .f__law_odd => ["_law_number"]
  | .f__law_spoilt => ["_law_thing", "_law_number", "_law_deep"]
  | .f__law_is_mark => ["_law_thing", "_law_handed"]
  | .f__law_is_kind => ["_law_thing", "_law_handed"]
  | .f__law_kind => ["_law_script", "_law_at", "_law_handed"]
  | .f_law => ["_law_script"]
def cAl (ca : Cid → Addr) : List (Str × Addr) := []
def cA (ca : Cid → Addr) (c : Str) : Option Addr := (cAl ca).lookup c
def xA (ea : Eid → Addr) (c : Str) : Option Addr := ([] : List (Str × Addr)).lookup c
structure Tx (K : PySem.W.Frag) (mg : Str → Option Value) (fa : Fid → Addr) (fdt : Fid → FuncData) (ca : Cid → Addr) (ea : Eid → Addr) : Prop where
  fn : ∀ i, Fun K (nam i) (qua i) (stm i) (fa i) (fdt i)
  bd : ∀ i, Binds K (fdt i) (pas i) []
  cl : ∀ i, Cls K (ca i)
  xc : ∀ i, ExcC K (ea i)
  mg_f_is_word : mg "is_word" = some (.ref (fa .f_is_word))
  kp_f_is_word : PySem.W.keepIn K (.ref (fa .f_is_word)) = true
  mg_f_once : mg "once" = some (.ref (fa .f_once))
  kp_f_once : PySem.W.keepIn K (.ref (fa .f_once)) = true
  mg_f_is_mark : mg "is_mark" = some (.ref (fa .f_is_mark))
  kp_f_is_mark : PySem.W.keepIn K (.ref (fa .f_is_mark)) = true
  mg_f_is_kind : mg "is_kind" = some (.ref (fa .f_is_kind))
  kp_f_is_kind : PySem.W.keepIn K (.ref (fa .f_is_kind)) = true
  mg_f_is_less : mg "is_less" = some (.ref (fa .f_is_less))
  kp_f_is_less : PySem.W.keepIn K (.ref (fa .f_is_less)) = true
  mg_f_joined : mg "joined" = some (.ref (fa .f_joined))
  kp_f_joined : PySem.W.keepIn K (.ref (fa .f_joined)) = true
  mg_f_both_of : mg "both_of" = some (.ref (fa .f_both_of))
  kp_f_both_of : PySem.W.keepIn K (.ref (fa .f_both_of)) = true
  mg_f__law_cell : mg "_law_cell" = some (.ref (fa .f__law_cell))
  kp_f__law_cell : PySem.W.keepIn K (.ref (fa .f__law_cell)) = true
  mg_f__law_drawn : mg "_law_drawn" = some (.ref (fa .f__law_drawn))
  kp_f__law_drawn : PySem.W.keepIn K (.ref (fa .f__law_drawn)) = true
  mg_f__law_odd : mg "_law_odd" = some (.ref (fa .f__law_odd))
  kp_f__law_odd : PySem.W.keepIn K (.ref (fa .f__law_odd)) = true
  mg_f__law_spoilt : mg "_law_spoilt" = some (.ref (fa .f__law_spoilt))
  kp_f__law_spoilt : PySem.W.keepIn K (.ref (fa .f__law_spoilt)) = true
  mg_f__law_is_mark : mg "_law_is_mark" = some (.ref (fa .f__law_is_mark))
  kp_f__law_is_mark : PySem.W.keepIn K (.ref (fa .f__law_is_mark)) = true
  mg_f__law_is_kind : mg "_law_is_kind" = some (.ref (fa .f__law_is_kind))
  kp_f__law_is_kind : PySem.W.keepIn K (.ref (fa .f__law_is_kind)) = true
  mg_f__law_kind : mg "_law_kind" = some (.ref (fa .f__law_kind))
  kp_f__law_kind : PySem.W.keepIn K (.ref (fa .f__law_kind)) = true
  mg_f_law : mg "law" = some (.ref (fa .f_law))
  kp_f_law : PySem.W.keepIn K (.ref (fa .f_law)) = true
  z_all : mg "all" = none
  z_bool : mg "bool" = none
  z_enumerate : mg "enumerate" = none
  z_int : mg "int" = none
  z_isinstance : mg "isinstance" = none
  z_len : mg "len" = none
  z_list : mg "list" = none
  z_set : mg "set" = none
  z_sorted : mg "sorted" = none
  z_str : mg "str" = none
  z_tuple : mg "tuple" = none
  z_zip : mg "zip" = none
  g_FIGURES : ∃ t, mg "FIGURES" = some (.str "0123456789" t)
  g_SHELVES : ∃ t, mg "SHELVES" = some (.str "abcd" t)
section
variable {P : Program} {w : World} {K : PySem.W.Frag} {mg : Str → Option Value} {base : Heap} {fa : Fid → Addr} {fdt : Fid → FuncData} {ca : Cid → Addr} {ea : Eid → Addr}
abbrev Ok (P : Program) (w : World) (K : PySem.W.Frag) (mg : Str → Option Value) (base : Heap) (fa : Fid → Addr) (fdt : Fid → FuncData) (ca : Cid → Addr) (ea : Eid → Addr) (n : Nat) (i : Fid) : Prop := FnOk P w K mg base (L2.CX P w) n (fa i) (fdt i) (pas i) (spD ⟨K, cA ca, xA ea⟩ (np i) (sem n i))
theorem sc_f_is_word : FnScope ["thing", "letters", "sign"] (pas .f_is_word) (defScope (stm .f_is_word)) := ⟨rfl, rfl, rfl, by decide +kernel, rfl, by decide +kernel, by decide +kernel⟩
theorem ok_f_is_word {n : Nat} (T : Tx K mg fa fdt ca ea) (ih : ∀ i, Ok P w K mg base fa fdt ca ea (n + 1) i) (ih2 : ∀ i, Ok P w K mg base fa fdt ca ea n i) : Ok P w K mg base fa fdt ca ea (n + 2) .f_is_word := by
  show FnOk P w K mg base (L2.CX P w) (n + 1 + 1) (fa .f_is_word) (fdt .f_is_word) (pas .f_is_word) (spD ⟨K, cA ca, xA ea⟩ 2 (runFn 2 3 (b_f_is_word (csem (n + 1)) (csem n))))
  refine fn_ok (T := ⟨cA ca, xA ea⟩) (np := 2) (N := ["thing", "letters", "sign"]) (b := b_f_is_word (csem (n + 1)) (csem n)) (T.fn .f_is_word) sc_f_is_word rfl (fun cdv A outer s H E hr => ?_)
  unfold b_f_is_word
  exact (pssd_cons (psd_if (PW.pt (pwd_or (ptd_not (ptd_val (pd_isi (by rfl) T.z_isinstance (by rfl) T.z_str (by rfl) (by rfl) (pd_var 0)))) (pwd_or (ptd_not (ptd_chain od_le od_le pd_int (pd_callB cd_len (by rfl) T.z_len (by rfl) (pda_cons (pd_var 0) pda_nil)) pd_int)) (pwd_or1 (ptd_cmp (od_notIn hr.u65) (pd_sub (hu_of hr) (pd_var 0) pd_int) (pd_var 1) (by rfl)))))) (pssd_one (psd_ret pd_bl)) pssd_nil)
    (pssd_one (psd_ret (pd_callB (cd_all rfl) (by rfl) T.z_all (by rfl) (pda_cons (pd_lc (own := [("sign", 2)]) rfl (by exact sc_f_is_word.nd) (by exact (pid_any (pd_sl (pd_var 0) (pod_some pd_int) pod_none))) (by exact (blkOk_by (own := [("sign", 2)]) (N := ["thing", "letters", "sign"]) (sc := defScope (stm .f_is_word)) (by decide +kernel))) (fun _ _ _ _ _ => by exact (pgd_name 2 sc_f_is_word.nd)) (fun _ _ _ _ _ => by exact ptsd_nil) (fun _ _ _ _ _ => by exact (pd_cmp (od_in hr.u65) (pd_var 2) (pd_gstr (by rfl) T.g_FIGURES.choose_spec) (by rfl)))) pda_nil)))))
theorem sc_f_once : FnScope ["marks"] (pas .f_once) (defScope (stm .f_once)) := ⟨rfl, rfl, rfl, by decide +kernel, rfl, by decide +kernel, by decide +kernel⟩
theorem ok_f_once {n : Nat} (T : Tx K mg fa fdt ca ea) (ih : ∀ i, Ok P w K mg base fa fdt ca ea (n + 1) i) (ih2 : ∀ i, Ok P w K mg base fa fdt ca ea n i) : Ok P w K mg base fa fdt ca ea (n + 2) .f_once := by
  show FnOk P w K mg base (L2.CX P w) (n + 1 + 1) (fa .f_once) (fdt .f_once) (pas .f_once) (spD ⟨K, cA ca, xA ea⟩ 1 (runFn 1 1 (b_f_once (csem (n + 1)) (csem n))))
  refine fn_ok (T := ⟨cA ca, xA ea⟩) (np := 1) (N := ["marks"]) (b := b_f_once (csem (n + 1)) (csem n)) (T.fn .f_once) sc_f_once rfl (fun cdv A outer s H E hr => ?_)
  unfold b_f_once
  exact (pssd_one (psd_ret (pd_ss rfl hr.u65 (by rfl) T.z_sorted (by rfl) T.z_set (pd_var 0))))
theorem sc_f_is_mark : FnScope ["thing", "handed"] (pas .f_is_mark) (defScope (stm .f_is_mark)) := ⟨rfl, rfl, rfl, by decide +kernel, rfl, by decide +kernel, by decide +kernel⟩
theorem ok_f_is_mark {n : Nat} (T : Tx K mg fa fdt ca ea) (ih : ∀ i, Ok P w K mg base fa fdt ca ea (n + 1) i) (ih2 : ∀ i, Ok P w K mg base fa fdt ca ea n i) : Ok P w K mg base fa fdt ca ea (n + 2) .f_is_mark := by
  show FnOk P w K mg base (L2.CX P w) (n + 1 + 1) (fa .f_is_mark) (fdt .f_is_mark) (pas .f_is_mark) (spD ⟨K, cA ca, xA ea⟩ 2 (runFn 2 2 (b_f_is_mark (csem (n + 1)) (csem n))))
  refine fn_ok (T := ⟨cA ca, xA ea⟩) (np := 2) (N := ["thing", "handed"]) (b := b_f_is_mark (csem (n + 1)) (csem n)) (T.fn .f_is_mark) sc_f_is_mark rfl (fun cdv A outer s H E hr => ?_)
  unfold b_f_is_mark
  exact (pssd_cons (psd_if (PW.pt (pwd_or (ptd_not (ptd_val (pd_isi (by rfl) T.z_isinstance (by rfl) T.z_tuple (by rfl) (by rfl) (pd_var 0)))) (pwd_or (ptd_cmp (od_eq hr.units) (pd_callB cd_len (by rfl) T.z_len (by rfl) (pda_cons (pd_var 0) pda_nil)) pd_int (nomark _)) (pwd_or1 (ptd_not (ptd_val (pd_isi (by rfl) T.z_isinstance (by rfl) T.z_str (by rfl) (by rfl) (pd_sub (hu_of hr) (pd_var 0) pd_int)))))))) (pssd_one (psd_ret pd_bl)) pssd_nil)
    (pssd_cons (psd_if (ptd_cmp (od_in hr.u65) (pd_sub (hu_of hr) (pd_var 0) pd_int) (pd_tup (pda_cons pd_str (pda_cons pd_str pda_nil))) (by rfl)) (pssd_one (psd_ret (pd_cmp (od_eq hr.units) (pd_callB cd_len (by rfl) T.z_len (by rfl) (pda_cons (pd_var 0) pda_nil)) pd_int (nomark _)))) pssd_nil)
    (pssd_cons (psd_if (PW.pt (pwd_or (ptd_cmp (od_ne hr.units) (pd_callB cd_len (by rfl) T.z_len (by rfl) (pda_cons (pd_var 0) pda_nil)) pd_int (nomark _)) (pwd_or1 (ptd_not (ptd_val (pd_isi (by rfl) T.z_isinstance (by rfl) T.z_str (by rfl) (by rfl) (pd_sub (hu_of hr) (pd_var 0) pd_int))))))) (pssd_one (psd_ret pd_bl)) pssd_nil)
    (pssd_cons (psd_if (ptd_cmp (od_eq hr.units) (pd_sub (hu_of hr) (pd_var 0) pd_int) pd_str (nomark _)) (pssd_one (psd_ret (pd_and (pd_call (ih .f_is_word) (hr.mono (Nat.le_refl _)) (by rfl) T.mg_f_is_word T.kp_f_is_word (T.bd .f_is_word) (takes_of rfl rfl rfl rfl) (pda_cons (pd_sub (hu_of hr) (pd_var 0) pd_int) (pda_cons pd_str pda_nil))) (pd_one (pd_cmp (od_in hr.u65) (pd_sub (hu_of hr) (pd_var 0) pd_int) (pd_var 1) (by rfl)))))) pssd_nil)
    (pssd_one (psd_ret (pd_and (pd_cmp (od_in hr.u65) (pd_sub (hu_of hr) (pd_var 0) pd_int) (pd_tup (pda_cons pd_str (pda_cons pd_str pda_nil))) (by rfl)) (pd_and (pd_cmp (od_eq hr.units) (pd_callB cd_len (by rfl) T.z_len (by rfl) (pda_cons (pd_sub (hu_of hr) (pd_var 0) pd_int) pda_nil)) pd_int (nomark _)) (pd_one (pd_cmp (od_in hr.u65) (pd_sub (hu_of hr) (pd_var 0) pd_int) (pd_gstr (by rfl) T.g_SHELVES.choose_spec) (by rfl)))))))))))
theorem sc_f_is_kind : FnScope ["thing", "handed", "mark", "one", "other"] (pas .f_is_kind) (defScope (stm .f_is_kind)) := ⟨rfl, rfl, rfl, by decide +kernel, rfl, by decide +kernel, by decide +kernel⟩
theorem ok_f_is_kind {n : Nat} (T : Tx K mg fa fdt ca ea) (ih : ∀ i, Ok P w K mg base fa fdt ca ea (n + 1) i) (ih2 : ∀ i, Ok P w K mg base fa fdt ca ea n i) : Ok P w K mg base fa fdt ca ea (n + 2) .f_is_kind := by
  show FnOk P w K mg base (L2.CX P w) (n + 1 + 1) (fa .f_is_kind) (fdt .f_is_kind) (pas .f_is_kind) (spD ⟨K, cA ca, xA ea⟩ 2 (runFn 2 5 (b_f_is_kind (csem (n + 1)) (csem n))))
  refine fn_ok (T := ⟨cA ca, xA ea⟩) (np := 2) (N := ["thing", "handed", "mark", "one", "other"]) (b := b_f_is_kind (csem (n + 1)) (csem n)) (T.fn .f_is_kind) sc_f_is_kind rfl (fun cdv A outer s H E hr => ?_)
  unfold b_f_is_kind
  exact (pssd_cons (psd_if (PW.pt (pwd_or (ptd_not (ptd_val (pd_isi (by rfl) T.z_isinstance (by rfl) T.z_list (by rfl) (by rfl) (pd_var 0)))) (pwd_or1 (ptd_not (ptd_val (pd_callB (cd_all rfl) (by rfl) T.z_all (by rfl) (pda_cons (pd_lc (own := [("mark", 2)]) rfl (by exact sc_f_is_kind.nd) (by exact (pid_any (pd_var 0))) (by exact (blkOk_by (own := [("mark", 2)]) (N := ["thing", "handed", "mark", "one", "other"]) (sc := defScope (stm .f_is_kind)) (by decide +kernel))) (fun _ _ _ _ _ => by exact (pgd_name 2 sc_f_is_kind.nd)) (fun _ _ _ _ _ => by exact ptsd_nil) (fun _ _ _ _ _ => by exact (pd_call (ih .f_is_mark) (hr.mono (Nat.le_refl _)) (by rfl) T.mg_f_is_mark T.kp_f_is_mark (T.bd .f_is_mark) takes0 (pda_cons (pd_var 2) (pda_cons (pd_var 1) pda_nil))))) pda_nil))))))) (pssd_one (psd_ret pd_bl)) pssd_nil)
    (pssd_one (psd_ret (pd_callB (cd_all rfl) (by rfl) T.z_all (by rfl) (pda_cons (pd_lc (own := [("one", 3), ("other", 4)]) rfl (by exact sc_f_is_kind.nd) (by exact (pid_zip (by rfl) T.z_zip (pd_var 0) (pd_sl (pd_var 0) (pod_some pd_int) pod_none))) (by exact (blkOk_by (own := [("one", 3), ("other", 4)]) (N := ["thing", "handed", "mark", "one", "other"]) (sc := defScope (stm .f_is_kind)) (by decide +kernel))) (fun _ _ _ _ _ => by exact (pgd_tup (n := 2) rfl (pgd_cons (pgd_name 3 sc_f_is_kind.nd) (pgd_cons (pgd_name 4 sc_f_is_kind.nd) pgd_nil)))) (fun _ _ _ _ _ => by exact ptsd_nil) (fun _ _ _ _ _ => by exact (pd_cmp (od_ltM hr.u65) (pd_var 3) (pd_var 4) (nomark _)))) pda_nil)))))
theorem sc_f_is_less : FnScope ["one", "other", "mark"] (pas .f_is_less) (defScope (stm .f_is_less)) := ⟨rfl, rfl, rfl, by decide +kernel, rfl, by decide +kernel, by decide +kernel⟩
theorem ok_f_is_less {n : Nat} (T : Tx K mg fa fdt ca ea) (ih : ∀ i, Ok P w K mg base fa fdt ca ea (n + 1) i) (ih2 : ∀ i, Ok P w K mg base fa fdt ca ea n i) : Ok P w K mg base fa fdt ca ea (n + 2) .f_is_less := by
  show FnOk P w K mg base (L2.CX P w) (n + 1 + 1) (fa .f_is_less) (fdt .f_is_less) (pas .f_is_less) (spD ⟨K, cA ca, xA ea⟩ 2 (runFn 2 3 (b_f_is_less (csem (n + 1)) (csem n))))
  refine fn_ok (T := ⟨cA ca, xA ea⟩) (np := 2) (N := ["one", "other", "mark"]) (b := b_f_is_less (csem (n + 1)) (csem n)) (T.fn .f_is_less) sc_f_is_less rfl (fun cdv A outer s H E hr => ?_)
  unfold b_f_is_less
  exact (pssd_one (psd_ret (pd_callB (cd_all rfl) (by rfl) T.z_all (by rfl) (pda_cons (pd_lc (own := [("mark", 2)]) rfl (by exact sc_f_is_less.nd) (by exact (pid_any (pd_var 0))) (by exact (blkOk_by (own := [("mark", 2)]) (N := ["one", "other", "mark"]) (sc := defScope (stm .f_is_less)) (by decide +kernel))) (fun _ _ _ _ _ => by exact (pgd_name 2 sc_f_is_less.nd)) (fun _ _ _ _ _ => by exact ptsd_nil) (fun _ _ _ _ _ => by exact (pd_cmp (od_in hr.u65) (pd_var 2) (pd_var 1) (by rfl)))) pda_nil))))
theorem sc_f_joined : FnScope ["one", "other"] (pas .f_joined) (defScope (stm .f_joined)) := ⟨rfl, rfl, rfl, by decide +kernel, rfl, by decide +kernel, by decide +kernel⟩
theorem ok_f_joined {n : Nat} (T : Tx K mg fa fdt ca ea) (ih : ∀ i, Ok P w K mg base fa fdt ca ea (n + 1) i) (ih2 : ∀ i, Ok P w K mg base fa fdt ca ea n i) : Ok P w K mg base fa fdt ca ea (n + 2) .f_joined := by
  show FnOk P w K mg base (L2.CX P w) (n + 1 + 1) (fa .f_joined) (fdt .f_joined) (pas .f_joined) (spD ⟨K, cA ca, xA ea⟩ 2 (runFn 2 2 (b_f_joined (csem (n + 1)) (csem n))))
  refine fn_ok (T := ⟨cA ca, xA ea⟩) (np := 2) (N := ["one", "other"]) (b := b_f_joined (csem (n + 1)) (csem n)) (T.fn .f_joined) sc_f_joined rfl (fun cdv A outer s H E hr => ?_)
  unfold b_f_joined
  exact (pssd_one (psd_ret (pd_call (ih .f_once) (hr.mono (Nat.le_refl _)) (by rfl) T.mg_f_once T.kp_f_once (T.bd .f_once) (takes_of rfl rfl rfl rfl) (pda_cons (pd_bin od_add (pd_var 0) (pd_var 1)) pda_nil))))
theorem sc_f_both_of : FnScope ["one", "other", "mark"] (pas .f_both_of) (defScope (stm .f_both_of)) := ⟨rfl, rfl, rfl, by decide +kernel, rfl, by decide +kernel, by decide +kernel⟩
theorem ok_f_both_of {n : Nat} (T : Tx K mg fa fdt ca ea) (ih : ∀ i, Ok P w K mg base fa fdt ca ea (n + 1) i) (ih2 : ∀ i, Ok P w K mg base fa fdt ca ea n i) : Ok P w K mg base fa fdt ca ea (n + 2) .f_both_of := by
  show FnOk P w K mg base (L2.CX P w) (n + 1 + 1) (fa .f_both_of) (fdt .f_both_of) (pas .f_both_of) (spD ⟨K, cA ca, xA ea⟩ 2 (runFn 2 3 (b_f_both_of (csem (n + 1)) (csem n))))
  refine fn_ok (T := ⟨cA ca, xA ea⟩) (np := 2) (N := ["one", "other", "mark"]) (b := b_f_both_of (csem (n + 1)) (csem n)) (T.fn .f_both_of) sc_f_both_of rfl (fun cdv A outer s H E hr => ?_)
  unfold b_f_both_of
  exact (pssd_one (psd_ret (pd_lc (own := [("mark", 2)]) rfl (by exact sc_f_both_of.nd) (by exact (pid_any (pd_var 0))) (by exact (blkOk_by (own := [("mark", 2)]) (N := ["one", "other", "mark"]) (sc := defScope (stm .f_both_of)) (by decide +kernel))) (fun _ _ _ _ _ => by exact (pgd_name 2 sc_f_both_of.nd)) (fun _ _ _ _ _ => by exact (ptsd_one (ptd_cmp (od_in hr.u65) (pd_var 2) (pd_var 1) (by rfl)))) (fun _ _ _ _ _ => by exact (pd_var 2)))))
theorem sc_f__law_cell : FnScope ["_law_script", "_law_k"] (pas .f__law_cell) (defScope (stm .f__law_cell)) := ⟨rfl, rfl, rfl, by decide +kernel, rfl, by decide +kernel, by decide +kernel⟩
theorem ok_f__law_cell {n : Nat} (T : Tx K mg fa fdt ca ea) (ih : ∀ i, Ok P w K mg base fa fdt ca ea (n + 1) i) (ih2 : ∀ i, Ok P w K mg base fa fdt ca ea n i) : Ok P w K mg base fa fdt ca ea (n + 2) .f__law_cell := by
  show FnOk P w K mg base (L2.CX P w) (n + 1 + 1) (fa .f__law_cell) (fdt .f__law_cell) (pas .f__law_cell) (spD ⟨K, cA ca, xA ea⟩ 2 (runFn 2 2 (b_f__law_cell (csem (n + 1)) (csem n))))
  refine fn_ok (T := ⟨cA ca, xA ea⟩) (np := 2) (N := ["_law_script", "_law_k"]) (b := b_f__law_cell (csem (n + 1)) (csem n)) (T.fn .f__law_cell) sc_f__law_cell rfl (fun cdv A outer s H E hr => ?_)
  unfold b_f__law_cell
  exact (pssd_cons (psd_if (ptd_cmp (od_eq hr.units) (pd_var 0) (pd_lst pda_nil) (nomark _)) (pssd_one (psd_ret (pd_bin od_mul pd_int (pd_var 1)))) pssd_nil)
    (pssd_one (psd_ret (pd_bin od_add (pd_sub (hu_of hr) (pd_var 0) (pd_bin od_mod (pd_var 1) (pd_callB cd_len (by rfl) T.z_len (by rfl) (pda_cons (pd_var 0) pda_nil)))) (pd_bin od_mul pd_int (pd_bin od_div (pd_var 1) (pd_callB cd_len (by rfl) T.z_len (by rfl) (pda_cons (pd_var 0) pda_nil))))))))
theorem sc_f__law_drawn : FnScope ["_law_script", "_law_k", "_law_many", "_law_cell_here"] (pas .f__law_drawn) (defScope (stm .f__law_drawn)) := ⟨rfl, rfl, rfl, by decide +kernel, rfl, by decide +kernel, by decide +kernel⟩
theorem ok_f__law_drawn {n : Nat} (T : Tx K mg fa fdt ca ea) (ih : ∀ i, Ok P w K mg base fa fdt ca ea (n + 1) i) (ih2 : ∀ i, Ok P w K mg base fa fdt ca ea n i) : Ok P w K mg base fa fdt ca ea (n + 2) .f__law_drawn := by
  show FnOk P w K mg base (L2.CX P w) (n + 1 + 1) (fa .f__law_drawn) (fdt .f__law_drawn) (pas .f__law_drawn) (spD ⟨K, cA ca, xA ea⟩ 3 (runFn 3 4 (b_f__law_drawn (csem (n + 1)) (csem n))))
  refine fn_ok (T := ⟨cA ca, xA ea⟩) (np := 3) (N := ["_law_script", "_law_k", "_law_many", "_law_cell_here"]) (b := b_f__law_drawn (csem (n + 1)) (csem n)) (T.fn .f__law_drawn) sc_f__law_drawn rfl (fun cdv A outer s H E hr => ?_)
  unfold b_f__law_drawn
  exact (pssd_cons (psd_asg (pd_bin od_mod (pd_bin od_add (pd_bin od_mul (pd_bin od_mod (pd_call (ih .f__law_cell) (hr.mono (Nat.le_refl _)) (by rfl) T.mg_f__law_cell T.kp_f__law_cell (T.bd .f__law_cell) (takes_of rfl rfl rfl rfl) (pda_cons (pd_var 0) (pda_cons (pd_var 1) pda_nil))) pd_int) pd_int) (pd_bin od_mul pd_int (pd_bin od_add (pd_var 1) pd_int))) pd_int) (pgd_name 3 sc_f__law_drawn.nd))
    (pssd_cons (psd_asg (pd_bin od_mod (pd_bin od_add (pd_bin od_mul (pd_var 3) (pd_var 3)) (pd_bin od_div (pd_var 3) pd_int)) pd_int) (pgd_name 3 sc_f__law_drawn.nd))
    (pssd_one (psd_ret (pd_bin od_mod (pd_bin od_div (pd_bin od_mod (pd_bin od_add (pd_bin od_mul (pd_var 3) (pd_var 3)) (pd_bin od_div (pd_var 3) pd_int)) pd_int) pd_int) (pd_var 2))))))
theorem sc_f__law_odd : FnScope ["_law_number", "_law_some"] (pas .f__law_odd) (defScope (stm .f__law_odd)) := ⟨rfl, rfl, rfl, by decide +kernel, rfl, by decide +kernel, by decide +kernel⟩
theorem ok_f__law_odd {n : Nat} (T : Tx K mg fa fdt ca ea) (ih : ∀ i, Ok P w K mg base fa fdt ca ea (n + 1) i) (ih2 : ∀ i, Ok P w K mg base fa fdt ca ea n i) : Ok P w K mg base fa fdt ca ea (n + 2) .f__law_odd := by
  show FnOk P w K mg base (L2.CX P w) (n + 1 + 1) (fa .f__law_odd) (fdt .f__law_odd) (pas .f__law_odd) (spD ⟨K, cA ca, xA ea⟩ 1 (runFn 1 2 (b_f__law_odd (csem (n + 1)) (csem n))))
  refine fn_ok (T := ⟨cA ca, xA ea⟩) (np := 1) (N := ["_law_number", "_law_some"]) (b := b_f__law_odd (csem (n + 1)) (csem n)) (T.fn .f__law_odd) sc_f__law_odd rfl (fun cdv A outer s H E hr => ?_)
  unfold b_f__law_odd
  exact (pssd_cons (psd_asg (pd_lst (pda_cons (pd_neg pd_int) (pda_cons pd_int (pda_cons pd_int (pda_cons pd_int (pda_cons pd_int (pda_cons pd_bl (pda_cons pd_non (pda_cons pd_str (pda_cons pd_str (pda_cons pd_str (pda_cons pd_str (pda_cons pd_str (pda_cons pd_str (pda_cons pd_str (pda_cons pd_str (pda_cons (pd_tup pda_nil) (pda_cons (pd_lst pda_nil) (pda_cons (pd_tup (pda_cons pd_str pda_nil)) pda_nil))))))))))))))))))) (pgd_name 1 sc_f__law_odd.nd))
    (pssd_cons (psd_asg (pd_bin od_add (pd_var 1) (pd_lst (pda_cons (pd_tup (pda_cons pd_str (pda_cons pd_str pda_nil))) (pda_cons (pd_tup (pda_cons pd_str (pda_cons pd_str pda_nil))) (pda_cons (pd_tup (pda_cons pd_str (pda_cons pd_str pda_nil))) (pda_cons (pd_tup (pda_cons pd_str (pda_cons pd_int (pda_cons (pd_tup pda_nil) (pda_cons (pd_tup pda_nil) pda_nil))))) (pda_cons (pd_tup (pda_cons pd_str (pda_cons pd_bl pda_nil))) (pda_cons (pd_tup (pda_cons pd_str (pda_cons pd_int pda_nil))) (pda_cons pd_int pda_nil))))))))) (pgd_name 1 sc_f__law_odd.nd))
    (pssd_cons (psd_expr (pd_append (pd_var 1) (pd_tup (pda_cons pd_str (pda_cons pd_int pda_nil)))))
    (pssd_one (psd_ret (pd_sub (hu_of hr) (pd_var 1) (pd_bin od_mod (pd_var 0) pd_int)))))))
theorem sc_f__law_spoilt : FnScope ["_law_thing", "_law_number", "_law_deep", "_law_at", "_law_part"] (pas .f__law_spoilt) (defScope (stm .f__law_spoilt)) := ⟨rfl, rfl, rfl, by decide +kernel, rfl, by decide +kernel, by decide +kernel⟩
theorem ok_f__law_spoilt {n : Nat} (T : Tx K mg fa fdt ca ea) (ih : ∀ i, Ok P w K mg base fa fdt ca ea (n + 1) i) (ih2 : ∀ i, Ok P w K mg base fa fdt ca ea n i) : Ok P w K mg base fa fdt ca ea (n + 2) .f__law_spoilt := by
  show FnOk P w K mg base (L2.CX P w) (n + 1 + 1) (fa .f__law_spoilt) (fdt .f__law_spoilt) (pas .f__law_spoilt) (spD ⟨K, cA ca, xA ea⟩ 3 (runFn 3 5 (b_f__law_spoilt (csem (n + 1)) (csem n))))
  refine fn_ok (T := ⟨cA ca, xA ea⟩) (np := 3) (N := ["_law_thing", "_law_number", "_law_deep", "_law_at", "_law_part"]) (b := b_f__law_spoilt (csem (n + 1)) (csem n)) (T.fn .f__law_spoilt) sc_f__law_spoilt rfl (fun cdv A outer s H E hr => ?_)
  unfold b_f__law_spoilt
  exact (pssd_cons (psd_if (PW.pt (pwd_and (ptd_cmp od_gt (pd_var 2) pd_int (nomark _)) (pwd_and (ptd_val (pd_isi (by rfl) T.z_isinstance (by rfl) T.z_tuple (by rfl) (by rfl) (pd_var 0))) (pwd_and (ptd_cmp od_gt (pd_callB cd_len (by rfl) T.z_len (by rfl) (pda_cons (pd_var 0) pda_nil)) pd_int (nomark _)) (pwd_and1 (ptd_cmp od_gt (pd_bin od_mod (pd_var 1) pd_int) pd_int (nomark _))))))) (pssd_cons (psd_asg (pd_bin od_mod (pd_bin od_div (pd_var 1) pd_int) (pd_callB cd_len (by rfl) T.z_len (by rfl) (pda_cons (pd_var 0) pda_nil))) (pgd_name 3 sc_f__law_spoilt.nd))
    (pssd_cons (psd_asg (pd_call (ih .f__law_spoilt) (hr.mono (Nat.le_refl _)) (by rfl) T.mg_f__law_spoilt T.kp_f__law_spoilt (T.bd .f__law_spoilt) (takes_of rfl rfl rfl rfl) (pda_cons (pd_sub (hu_of hr) (pd_var 0) (pd_var 3)) (pda_cons (pd_bin od_div (pd_var 1) pd_int) (pda_cons (pd_bin od_sub (pd_var 2) pd_int) pda_nil)))) (pgd_name 4 sc_f__law_spoilt.nd))
    (pssd_one (psd_ret (pd_bin od_add (pd_bin od_add (pd_sl (pd_var 0) pod_none (pod_some (pd_var 3))) (pd_tup (pda_cons (pd_var 4) pda_nil))) (pd_sl (pd_var 0) (pod_some (pd_bin od_add (pd_var 3) pd_int)) pod_none)))))) pssd_nil)
    (pssd_cons (psd_if (PW.pt (pwd_and (ptd_val (pd_isi (by rfl) T.z_isinstance (by rfl) T.z_tuple (by rfl) (by rfl) (pd_var 0))) (pwd_and (ptd_cmp od_gt (pd_callB cd_len (by rfl) T.z_len (by rfl) (pda_cons (pd_var 0) pda_nil)) pd_int (nomark _)) (pwd_and1 (ptd_cmp (od_eq hr.units) (pd_bin od_mod (pd_bin od_div (pd_var 1) pd_int) pd_int) pd_int (nomark _)))))) (pssd_one (psd_ret (pd_sub (hu_of hr) (pd_lst (pda_cons (pd_callTy cd_list (by rfl) T.z_list (by rfl) (pda_cons (pd_var 0) pda_nil)) (pda_cons (pd_sl (pd_var 0) pod_none (pod_some (pd_neg pd_int))) (pda_cons (pd_bin od_add (pd_var 0) (pd_sl (pd_var 0) (pod_some (pd_neg pd_int)) pod_none)) (pda_cons (pd_sl (pd_var 0) (pod_some pd_int) pod_none) (pda_cons (pd_revT (pd_var 0)) (pda_cons (pd_bin od_mul (pd_var 0) pd_int) pda_nil))))))) (pd_bin od_mod (pd_bin od_div (pd_var 1) pd_int) pd_int)))) pssd_nil)
    (pssd_cons (psd_if (PW.pt (pwd_and (ptd_val (pd_isi (by rfl) T.z_isinstance (by rfl) T.z_int (by rfl) (by rfl) (pd_var 0))) (pwd_and1 (ptd_cmp (od_eq hr.units) (pd_bin od_mod (pd_bin od_div (pd_var 1) pd_int) pd_int) pd_int (nomark _))))) (pssd_one (psd_ret (pd_sub (hu_of hr) (pd_lst (pda_cons (pd_callTy cd_strI (by rfl) T.z_str (by rfl) (pda_cons (pd_var 0) pda_nil)) (pda_cons (pd_bin od_sub pd_int (pd_var 0)) (pda_cons (pd_bin od_add (pd_var 0) pd_int) (pda_cons (pd_cmp (od_eq hr.units) (pd_var 0) pd_int (nomark _)) (pda_cons (pd_bin od_sub (pd_var 0) pd_int) (pda_cons (pd_bin od_add (pd_var 0) pd_int) pda_nil))))))) (pd_bin od_mod (pd_bin od_div (pd_var 1) pd_int) pd_int)))) pssd_nil)
    (pssd_one (psd_ret (pd_call (ih .f__law_odd) (hr.mono (Nat.le_refl _)) (by rfl) T.mg_f__law_odd T.kp_f__law_odd (T.bd .f__law_odd) (takes_of rfl rfl rfl rfl) (pda_cons (pd_bin od_div (pd_var 1) pd_int) pda_nil)))))))
theorem sc_f__law_is_mark : FnScope ["_law_thing", "_law_handed"] (pas .f__law_is_mark) (defScope (stm .f__law_is_mark)) := ⟨rfl, rfl, rfl, by decide +kernel, rfl, by decide +kernel, by decide +kernel⟩
theorem ok_f__law_is_mark {n : Nat} (T : Tx K mg fa fdt ca ea) (ih : ∀ i, Ok P w K mg base fa fdt ca ea (n + 1) i) (ih2 : ∀ i, Ok P w K mg base fa fdt ca ea n i) : Ok P w K mg base fa fdt ca ea (n + 2) .f__law_is_mark := by
  show FnOk P w K mg base (L2.CX P w) (n + 1 + 1) (fa .f__law_is_mark) (fdt .f__law_is_mark) (pas .f__law_is_mark) (spD ⟨K, cA ca, xA ea⟩ 2 (runFn 2 2 (b_f__law_is_mark (csem (n + 1)) (csem n))))
  refine fn_ok (T := ⟨cA ca, xA ea⟩) (np := 2) (N := ["_law_thing", "_law_handed"]) (b := b_f__law_is_mark (csem (n + 1)) (csem n)) (T.fn .f__law_is_mark) sc_f__law_is_mark rfl (fun cdv A outer s H E hr => ?_)
  unfold b_f__law_is_mark
  exact (pssd_cons (psd_if (PW.pt (pwd_or (ptd_not (ptd_val (pd_isi (by rfl) T.z_isinstance (by rfl) T.z_tuple (by rfl) (by rfl) (pd_var 0)))) (pwd_or1 (ptd_cmp (od_in hr.u65) (pd_var 0) (pd_tup (pda_cons (pd_tup (pda_cons pd_str pda_nil)) (pda_cons (pd_tup (pda_cons pd_str pda_nil)) pda_nil))) (by rfl))))) (pssd_one (psd_ret (pd_isi (by rfl) T.z_isinstance (by rfl) T.z_tuple (by rfl) (by rfl) (pd_var 0)))) pssd_nil)
    (pssd_cons (psd_if (PW.pt (pwd_or (ptd_cmp (od_ne hr.units) (pd_callB cd_len (by rfl) T.z_len (by rfl) (pda_cons (pd_var 0) pda_nil)) pd_int (nomark _)) (pwd_or (ptd_not (ptd_val (pd_isi (by rfl) T.z_isinstance (by rfl) T.z_str (by rfl) (by rfl) (pd_sub (hu_of hr) (pd_var 0) pd_int)))) (pwd_or1 (ptd_not (ptd_val (pd_isi (by rfl) T.z_isinstance (by rfl) T.z_str (by rfl) (by rfl) (pd_sub (hu_of hr) (pd_var 0) pd_int)))))))) (pssd_one (psd_ret pd_bl)) pssd_nil)
    (pssd_cons (psd_if (ptd_cmp (od_eq hr.units) (pd_sub (hu_of hr) (pd_var 0) pd_int) pd_str (nomark _)) (pssd_one (psd_ret (pd_cmp (od_in hr.u65) (pd_sub (hu_of hr) (pd_var 0) pd_int) (pd_var 1) (by rfl)))) pssd_nil)
    (pssd_one (psd_ret (pd_and (pd_cmp (od_in hr.u65) (pd_sub (hu_of hr) (pd_var 0) pd_int) (pd_tup (pda_cons pd_str (pda_cons pd_str pda_nil))) (by rfl)) (pd_one (pd_cmp (od_in hr.u65) (pd_sub (hu_of hr) (pd_var 0) pd_int) (pd_tup (pda_cons pd_str (pda_cons pd_str (pda_cons pd_str (pda_cons pd_str pda_nil))))) (by rfl)))))))))
theorem sc_f__law_is_kind : FnScope ["_law_thing", "_law_handed", "_law_mark"] (pas .f__law_is_kind) (defScope (stm .f__law_is_kind)) := ⟨rfl, rfl, rfl, by decide +kernel, rfl, by decide +kernel, by decide +kernel⟩
theorem ok_f__law_is_kind {n : Nat} (T : Tx K mg fa fdt ca ea) (ih : ∀ i, Ok P w K mg base fa fdt ca ea (n + 1) i) (ih2 : ∀ i, Ok P w K mg base fa fdt ca ea n i) : Ok P w K mg base fa fdt ca ea (n + 2) .f__law_is_kind := by
  show FnOk P w K mg base (L2.CX P w) (n + 1 + 1) (fa .f__law_is_kind) (fdt .f__law_is_kind) (pas .f__law_is_kind) (spD ⟨K, cA ca, xA ea⟩ 2 (runFn 2 3 (b_f__law_is_kind (csem (n + 1)) (csem n))))
  refine fn_ok (T := ⟨cA ca, xA ea⟩) (np := 2) (N := ["_law_thing", "_law_handed", "_law_mark"]) (b := b_f__law_is_kind (csem (n + 1)) (csem n)) (T.fn .f__law_is_kind) sc_f__law_is_kind rfl (fun cdv A outer s H E hr => ?_)
  unfold b_f__law_is_kind
  exact (pssd_cons (psd_if (PW.pt (pwd_or (ptd_not (ptd_val (pd_isi (by rfl) T.z_isinstance (by rfl) T.z_list (by rfl) (by rfl) (pd_var 0)))) (pwd_or1 (ptd_cmp (od_ne hr.units) (pd_lc (own := [("_law_mark", 2)]) rfl (by exact sc_f__law_is_kind.nd) (by exact (pid_any (pd_var 0))) (by exact (blkOk_by (own := [("_law_mark", 2)]) (N := ["_law_thing", "_law_handed", "_law_mark"]) (sc := defScope (stm .f__law_is_kind)) (by decide +kernel))) (fun _ _ _ _ _ => by exact (pgd_name 2 sc_f__law_is_kind.nd)) (fun _ _ _ _ _ => by exact (ptsd_one (ptd_not (ptd_val (pd_call (ih .f__law_is_mark) (hr.mono (Nat.le_refl _)) (by rfl) T.mg_f__law_is_mark T.kp_f__law_is_mark (T.bd .f__law_is_mark) takes0 (pda_cons (pd_var 2) (pda_cons (pd_var 1) pda_nil))))))) (fun _ _ _ _ _ => by exact (pd_var 2))) (pd_lst pda_nil) (nomark _))))) (pssd_one (psd_ret pd_bl)) pssd_nil)
    (pssd_one (psd_ret (pd_cmp (od_eq hr.units) (pd_var 0) (pd_ss rfl hr.u65 (by rfl) T.z_sorted (by rfl) T.z_set (pd_var 0)) (nomark _)))))
theorem sc_f__law_kind : FnScope ["_law_script", "_law_at", "_law_handed", "_law_every", "_law_shelf", "_law_word", "_law_k", "_law_mark"] (pas .f__law_kind) (defScope (stm .f__law_kind)) := ⟨rfl, rfl, rfl, by decide +kernel, rfl, by decide +kernel, by decide +kernel⟩
theorem ok_f__law_kind {n : Nat} (T : Tx K mg fa fdt ca ea) (ih : ∀ i, Ok P w K mg base fa fdt ca ea (n + 1) i) (ih2 : ∀ i, Ok P w K mg base fa fdt ca ea n i) : Ok P w K mg base fa fdt ca ea (n + 2) .f__law_kind := by
  show FnOk P w K mg base (L2.CX P w) (n + 1 + 1) (fa .f__law_kind) (fdt .f__law_kind) (pas .f__law_kind) (spD ⟨K, cA ca, xA ea⟩ 3 (runFn 3 8 (b_f__law_kind (csem (n + 1)) (csem n))))
  refine fn_ok (T := ⟨cA ca, xA ea⟩) (np := 3) (N := ["_law_script", "_law_at", "_law_handed", "_law_every", "_law_shelf", "_law_word", "_law_k", "_law_mark"]) (b := b_f__law_kind (csem (n + 1)) (csem n)) (T.fn .f__law_kind) sc_f__law_kind rfl (fun cdv A outer s H E hr => ?_)
  unfold b_f__law_kind
  exact (pssd_cons (psd_asg (pd_bin od_add (pd_lst (pda_cons (pd_tup (pda_cons pd_str pda_nil)) (pda_cons (pd_tup (pda_cons pd_str pda_nil)) pda_nil))) (pd_lc (own := [("_law_word", 5)]) rfl (by exact sc_f__law_kind.nd) (by exact (pid_any (pd_var 2))) (by exact (blkOk_by (own := [("_law_word", 5)]) (N := ["_law_script", "_law_at", "_law_handed", "_law_every", "_law_shelf", "_law_word", "_law_k", "_law_mark"]) (sc := defScope (stm .f__law_kind)) (by decide +kernel))) (fun _ _ _ _ _ => by exact (pgd_name 5 sc_f__law_kind.nd)) (fun _ _ _ _ _ => by exact ptsd_nil) (fun _ _ _ _ _ => by exact (pd_tup (pda_cons pd_str (pda_cons (pd_var 5) pda_nil)))))) (pgd_name 3 sc_f__law_kind.nd))
    (pssd_cons (psd_for (passes_of rfl) rfl (pid_any pd_str) (pgd_name 4 sc_f__law_kind.nd) (pssd_one (psd_asg (pd_bin od_add (pd_var 3) (pd_lst (pda_cons (pd_tup (pda_cons pd_str (pda_cons (pd_var 4) pda_nil))) (pda_cons (pd_tup (pda_cons pd_str (pda_cons (pd_var 4) pda_nil))) pda_nil)))) (pgd_name 3 sc_f__law_kind.nd))))
    (pssd_one (psd_ret (pd_callB (cd_sorted rfl) (by rfl) T.z_sorted (by rfl) (pda_cons (pd_lc (own := [("_law_k", 6), ("_law_mark", 7)]) rfl (by exact sc_f__law_kind.nd) (by exact (pid_enumA (by rfl) T.z_enumerate (pd_var 3))) (by exact (blkOk_by (own := [("_law_k", 6), ("_law_mark", 7)]) (N := ["_law_script", "_law_at", "_law_handed", "_law_every", "_law_shelf", "_law_word", "_law_k", "_law_mark"]) (sc := defScope (stm .f__law_kind)) (by decide +kernel))) (fun _ _ _ _ _ => by exact (pgd_tup (n := 2) rfl (pgd_cons (pgd_name 6 sc_f__law_kind.nd) (pgd_cons (pgd_name 7 sc_f__law_kind.nd) pgd_nil)))) (fun _ _ _ _ _ => by exact (ptsd_one (ptd_cmp (od_eq hr.units) (pd_call (ih .f__law_drawn) (hr.mono (Nat.le_refl _)) (by rfl) T.mg_f__law_drawn T.kp_f__law_drawn (T.bd .f__law_drawn) takes0 (pda_cons (pd_var 0) (pda_cons (pd_bin od_add (pd_var 1) (pd_var 6)) (pda_cons pd_int pda_nil)))) pd_int (nomark _)))) (fun _ _ _ _ _ => by exact (pd_var 7))) pda_nil))))))
theorem sc_f_law : FnScope ["_law_script", "_law_handed", "_law_one", "_law_other", "_law_spoilt_here", "_law_at", "_law_some", "_law_thing", "_law_said", "_law_mark"] (pas .f_law) (defScope (stm .f_law)) := ⟨rfl, rfl, rfl, by decide +kernel, rfl, by decide +kernel, by decide +kernel⟩
theorem ok_f_law {n : Nat} (T : Tx K mg fa fdt ca ea) (ih : ∀ i, Ok P w K mg base fa fdt ca ea (n + 1) i) (ih2 : ∀ i, Ok P w K mg base fa fdt ca ea n i) : Ok P w K mg base fa fdt ca ea (n + 2) .f_law := by
  show FnOk P w K mg base (L2.CX P w) (n + 1 + 1) (fa .f_law) (fdt .f_law) (pas .f_law) (spD ⟨K, cA ca, xA ea⟩ 1 (runFn 1 10 (b_f_law (csem (n + 1)) (csem n) (lsem (n + 1)) (lsem n))))
  refine fn_ok (T := ⟨cA ca, xA ea⟩) (np := 1) (N := ["_law_script", "_law_handed", "_law_one", "_law_other", "_law_spoilt_here", "_law_at", "_law_some", "_law_thing", "_law_said", "_law_mark"]) (b := b_f_law (csem (n + 1)) (csem n) (lsem (n + 1)) (lsem n)) (T.fn .f_law) sc_f_law rfl (fun cdv A outer s H E hr => ?_)
  unfold b_f_law
  exact (pssd_cons (psd_asg (pd_sub (hu_of hr) (pd_lst (pda_cons (pd_tup pda_nil) (pda_cons (pd_tup (pda_cons pd_str pda_nil)) (pda_cons (pd_tup (pda_cons pd_str (pda_cons pd_str pda_nil))) pda_nil)))) (pd_call (ih .f__law_drawn) (hr.mono (Nat.le_refl _)) (by rfl) T.mg_f__law_drawn T.kp_f__law_drawn (T.bd .f__law_drawn) (takes_of rfl rfl rfl rfl) (pda_cons (pd_var 0) (pda_cons pd_int (pda_cons pd_int pda_nil))))) (pgd_name 1 sc_f_law.nd))
    (pssd_cons (psd_asg (pd_call (ih .f__law_kind) (hr.mono (Nat.le_refl _)) (by rfl) T.mg_f__law_kind T.kp_f__law_kind (T.bd .f__law_kind) (takes_of rfl rfl rfl rfl) (pda_cons (pd_var 0) (pda_cons pd_int (pda_cons (pd_var 1) pda_nil)))) (pgd_name 2 sc_f_law.nd))
    (pssd_cons (psd_asg (pd_call (ih .f__law_kind) (hr.mono (Nat.le_refl _)) (by rfl) T.mg_f__law_kind T.kp_f__law_kind (T.bd .f__law_kind) (takes_of rfl rfl rfl rfl) (pda_cons (pd_var 0) (pda_cons pd_int (pda_cons (pd_var 1) pda_nil)))) (pgd_name 3 sc_f_law.nd))
    (pssd_cons (psd_asg (pd_sl (pd_var 2) pod_none pod_none) (pgd_name 4 sc_f_law.nd))
    (pssd_cons (psd_if (ptd_cmp (od_ne hr.units) (pd_var 2) (pd_lst pda_nil) (nomark _)) (pssd_cons (psd_asg (pd_call (ih .f__law_drawn) (hr.mono (Nat.le_refl _)) (by rfl) T.mg_f__law_drawn T.kp_f__law_drawn (T.bd .f__law_drawn) (takes_of rfl rfl rfl rfl) (pda_cons (pd_var 0) (pda_cons pd_int (pda_cons (pd_callB cd_len (by rfl) T.z_len (by rfl) (pda_cons (pd_var 2) pda_nil)) pda_nil)))) (pgd_name 5 sc_f_law.nd))
    (pssd_one (psd_put (hu_of hr) (pd_var 4) (pd_var 5) (pd_call (ih .f__law_spoilt) (hr.mono (Nat.le_refl _)) (by rfl) T.mg_f__law_spoilt T.kp_f__law_spoilt (T.bd .f__law_spoilt) (takes_of rfl rfl rfl rfl) (pda_cons (pd_sub (hu_of hr) (pd_var 2) (pd_var 5)) (pda_cons (pd_call (ih .f__law_drawn) (hr.mono (Nat.le_refl _)) (by rfl) T.mg_f__law_drawn T.kp_f__law_drawn (T.bd .f__law_drawn) (takes_of rfl rfl rfl rfl) (pda_cons (pd_var 0) (pda_cons pd_int (pda_cons (pd_bin od_pow pd_int pd_int) pda_nil)))) (pda_cons (pd_call (ih .f__law_drawn) (hr.mono (Nat.le_refl _)) (by rfl) T.mg_f__law_drawn T.kp_f__law_drawn (T.bd .f__law_drawn) (takes_of rfl rfl rfl rfl) (pda_cons (pd_var 0) (pda_cons pd_int (pda_cons pd_int pda_nil)))) pda_nil))))))) pssd_nil)
    (pssd_cons (psd_asg (pd_lst (pda_cons (pd_var 2) (pda_cons (pd_var 4) (pda_cons (pd_rev (pd_var 2)) (pda_cons (pd_callTy cd_tuple (by rfl) T.z_tuple (by rfl) (pda_cons (pd_var 2) pda_nil)) (pda_cons (pd_bin od_add (pd_var 2) (pd_sl (pd_var 2) pod_none (pod_some pd_int))) (pda_cons (pd_lst (pda_cons (pd_tup (pda_cons pd_str (pda_cons pd_str pda_nil))) pda_nil)) (pda_cons (pd_lst (pda_cons (pd_tup (pda_cons pd_str (pda_cons pd_str pda_nil))) pda_nil)) (pda_cons (pd_lst (pda_cons (pd_tup (pda_cons pd_str (pda_cons pd_str pda_nil))) pda_nil)) pda_nil))))))))) (pgd_name 6 sc_f_law.nd))
    (pssd_cons (psd_asg (pd_bin od_add (pd_var 6) (pd_lst (pda_cons (pd_lst (pda_cons (pd_tup (pda_cons pd_str (pda_cons pd_str pda_nil))) pda_nil)) (pda_cons (pd_lst (pda_cons (pd_tup (pda_cons pd_str (pda_cons pd_str pda_nil))) pda_nil)) (pda_cons (pd_lst (pda_cons (pd_tup (pda_cons pd_str pda_nil)) pda_nil)) (pda_cons (pd_lst (pda_cons (pd_tup (pda_cons pd_str (pda_cons pd_str (pda_cons pd_str pda_nil)))) pda_nil)) (pda_cons (pd_lst (pda_cons (pd_tup (pda_cons pd_str pda_nil)) (pda_cons (pd_tup (pda_cons pd_str pda_nil)) pda_nil))) (pda_cons (pd_lst (pda_cons (pd_tup (pda_cons pd_str pda_nil)) pda_nil)) pda_nil)))))))) (pgd_name 6 sc_f_law.nd))
    (pssd_cons (psd_for (passes_of rfl) rfl (pid_any (pd_bin od_add (pd_var 6) (pd_lst (pda_cons (pd_call (ih .f__law_odd) (hr.mono (Nat.le_refl _)) (by rfl) T.mg_f__law_odd T.kp_f__law_odd (T.bd .f__law_odd) (takes_of rfl rfl rfl rfl) (pda_cons (pd_call (ih .f__law_drawn) (hr.mono (Nat.le_refl _)) (by rfl) T.mg_f__law_drawn T.kp_f__law_drawn (T.bd .f__law_drawn) (takes_of rfl rfl rfl rfl) (pda_cons (pd_var 0) (pda_cons pd_int (pda_cons pd_int pda_nil)))) pda_nil)) pda_nil)))) (pgd_name 7 sc_f_law.nd) (pssd_cons (psd_asg (pd_call (ih .f_is_kind) (hr.mono (Nat.le_refl _)) (by rfl) T.mg_f_is_kind T.kp_f_is_kind (T.bd .f_is_kind) (takes_of rfl rfl rfl rfl) (pda_cons (pd_var 7) (pda_cons (pd_var 1) pda_nil))) (pgd_name 8 sc_f_law.nd))
    (pssd_one (psd_if (PW.pt (pwd_or (ptd_not (ptd_val (pd_isi (by rfl) T.z_isinstance (by rfl) T.z_bool (by rfl) (by rfl) (pd_var 8)))) (pwd_or1 (ptd_cmp (od_ne hr.units) (pd_var 8) (pd_call (ih .f__law_is_kind) (hr.mono (Nat.le_refl _)) (by rfl) T.mg_f__law_is_kind T.kp_f__law_is_kind (T.bd .f__law_is_kind) (takes_of rfl rfl rfl rfl) (pda_cons (pd_var 7) (pda_cons (pd_var 1) pda_nil))) (nomark _))))) (pssd_one (psd_ret pd_bl)) pssd_nil))))
    (pssd_cons (psd_asg (pd_call (ih .f_is_less) (hr.mono (Nat.le_refl _)) (by rfl) T.mg_f_is_less T.kp_f_is_less (T.bd .f_is_less) (takes_of rfl rfl rfl rfl) (pda_cons (pd_var 2) (pda_cons (pd_var 3) pda_nil))) (pgd_name 8 sc_f_law.nd))
    (pssd_cons (psd_if (PW.pt (pwd_or (ptd_not (ptd_val (pd_isi (by rfl) T.z_isinstance (by rfl) T.z_bool (by rfl) (by rfl) (pd_var 8)))) (pwd_or1 (ptd_cmp (od_ne hr.units) (pd_var 8) (pd_cmp (od_eq hr.units) (pd_lc (own := [("_law_mark", 9)]) rfl (by exact sc_f_law.nd) (by exact (pid_any (pd_var 2))) (by exact (blkOk_by (own := [("_law_mark", 9)]) (N := ["_law_script", "_law_handed", "_law_one", "_law_other", "_law_spoilt_here", "_law_at", "_law_some", "_law_thing", "_law_said", "_law_mark"]) (sc := defScope (stm .f_law)) (by decide +kernel))) (fun _ _ _ _ _ => by exact (pgd_name 9 sc_f_law.nd)) (fun _ _ _ _ _ => by exact (ptsd_one (ptd_cmp (od_notIn hr.u65) (pd_var 9) (pd_var 3) (by rfl)))) (fun _ _ _ _ _ => by exact (pd_var 9))) (pd_lst pda_nil) (nomark _)) (nomark _))))) (pssd_one (psd_ret pd_bl)) pssd_nil)
    (pssd_cons (psd_if (ptd_cmp (od_ne hr.units) (pd_call (ih .f_both_of) (hr.mono (Nat.le_refl _)) (by rfl) T.mg_f_both_of T.kp_f_both_of (T.bd .f_both_of) (takes_of rfl rfl rfl rfl) (pda_cons (pd_var 2) (pda_cons (pd_var 3) pda_nil))) (pd_lc (own := [("_law_mark", 9)]) rfl (by exact sc_f_law.nd) (by exact (pid_any (pd_var 2))) (by exact (blkOk_by (own := [("_law_mark", 9)]) (N := ["_law_script", "_law_handed", "_law_one", "_law_other", "_law_spoilt_here", "_law_at", "_law_some", "_law_thing", "_law_said", "_law_mark"]) (sc := defScope (stm .f_law)) (by decide +kernel))) (fun _ _ _ _ _ => by exact (pgd_name 9 sc_f_law.nd)) (fun _ _ _ _ _ => by exact (ptsd_one (ptd_cmp (od_in hr.u65) (pd_var 9) (pd_var 3) (by rfl)))) (fun _ _ _ _ _ => by exact (pd_var 9))) (nomark _)) (pssd_one (psd_ret pd_bl)) pssd_nil)
    (pssd_one (psd_ret (pd_and (pd_cmp (od_eq hr.units) (pd_call (ih .f_joined) (hr.mono (Nat.le_refl _)) (by rfl) T.mg_f_joined T.kp_f_joined (T.bd .f_joined) (takes_of rfl rfl rfl rfl) (pda_cons (pd_var 2) (pda_cons (pd_var 3) pda_nil))) (pd_ss rfl hr.u65 (by rfl) T.z_sorted (by rfl) T.z_set (pd_bin od_add (pd_var 2) (pd_var 3))) (nomark _)) (pd_one (pd_call (ih .f_is_less) (hr.mono (Nat.le_refl _)) (by rfl) T.mg_f_is_less T.kp_f_is_less (T.bd .f_is_less) (takes_of rfl rfl rfl rfl) (pda_cons (pd_var 2) (pda_cons (pd_var 2) pda_nil))))))))))))))))))
theorem all_ok (T : Tx K mg fa fdt ca ea) : ∀ n, (∀ i, Ok P w K mg base fa fdt ca ea n i) ∧ ∀ i, Ok P w K mg base fa fdt ca ea (n + 1) i
  | 0 => ⟨fun i => by cases i <;> exact fn_zero, fun i => by cases i <;> exact fn_zero.mono (Nat.zero_le _)⟩
  | n + 1 => by
    obtain ⟨h2, h1⟩ := all_ok T n
    refine ⟨h1, fun i => ?_⟩
    cases i
    · exact ok_f_is_word T h1 h2
    · exact ok_f_once T h1 h2
    · exact ok_f_is_mark T h1 h2
    · exact ok_f_is_kind T h1 h2
    · exact ok_f_is_less T h1 h2
    · exact ok_f_joined T h1 h2
    · exact ok_f_both_of T h1 h2
    · exact ok_f__law_cell T h1 h2
    · exact ok_f__law_drawn T h1 h2
    · exact ok_f__law_odd T h1 h2
    · exact ok_f__law_spoilt T h1 h2
    · exact ok_f__law_is_mark T h1 h2
    · exact ok_f__law_is_kind T h1 h2
    · exact ok_f__law_kind T h1 h2
    · exact ok_f_law T h1 h2
end
def spLaw (K : PySem.W.Frag) : Sp := fun vs H Q _ => ∃ (a : Addr) (ns : List Int), vs = [.ref a] ∧ SqL K H a (ns.map V.int) ∧ Only H ∧ ns.length ≤ 63 ∧ ∀ H', Q (.bl true) H'
def lev : Nat := 231
theorem sp_law {K : PySem.W.Frag} {ca : Cid → Addr} {ea : Eid → Addr} (vs : List V) (H : Hp) (Q : VK) (E : XK) (h : spLaw K vs H Q E) : spD ⟨K, cA ca, xA ea⟩ 1 (lsem lev .f_law) vs H Q E := by
  obtain ⟨a, ns, rfl, hq, hO, hl, k⟩ := h
  obtain ⟨S, e⟩ := law_true ns hl
  refine ⟨[], [], [.seq (ns.map .int)], rfl, hs_nil _ _, .cons ?_ .nil, ?_⟩
  · exact rv_script hO hq
  · have e2 : lsem lev .f_law [.seq (ns.map .int)] [] = .ok (.bl true) S := e
    rw [e2]
    rintro v μ' H' g hs r
    cases r
    exact k H'
theorem all_mk {l : PySem.W.OpenLaw} {w : World} {K : PySem.W.Frag} {h : Heap} {mg : Str → Option Value} {f_a : Addr} (X : K.In h) (G : h.Ns mainGlobals mg) (hfa : mg "law" = some (.ref f_a))
    {a0 : Addr} {od0 an0 : Option Addr} {sl0 : Array (Option Value)} {oc0 kV0 dc0 pm0 cd0 ct0 : Value}
    {a1 : Addr} {od1 an1 : Option Addr} {sl1 : Array (Option Value)} {oc1 kV1 dc1 pm1 cd1 ct1 : Value}
    {a2 : Addr} {od2 an2 : Option Addr} {sl2 : Array (Option Value)} {oc2 kV2 dc2 pm2 cd2 ct2 : Value}
    {a3 : Addr} {od3 an3 : Option Addr} {sl3 : Array (Option Value)} {oc3 kV3 dc3 pm3 cd3 ct3 : Value}
    {a4 : Addr} {od4 an4 : Option Addr} {sl4 : Array (Option Value)} {oc4 kV4 dc4 pm4 cd4 ct4 : Value}
    {a5 : Addr} {od5 an5 : Option Addr} {sl5 : Array (Option Value)} {oc5 kV5 dc5 pm5 cd5 ct5 : Value}
    {a6 : Addr} {od6 an6 : Option Addr} {sl6 : Array (Option Value)} {oc6 kV6 dc6 pm6 cd6 ct6 : Value}
    {a7 : Addr} {od7 an7 : Option Addr} {sl7 : Array (Option Value)} {oc7 kV7 dc7 pm7 cd7 ct7 : Value}
    {a8 : Addr} {od8 an8 : Option Addr} {sl8 : Array (Option Value)} {oc8 kV8 dc8 pm8 cd8 ct8 : Value}
    {a9 : Addr} {od9 an9 : Option Addr} {sl9 : Array (Option Value)} {oc9 kV9 dc9 pm9 cd9 ct9 : Value}
    {a10 : Addr} {od10 an10 : Option Addr} {sl10 : Array (Option Value)} {oc10 kV10 dc10 pm10 cd10 ct10 : Value}
    {a11 : Addr} {od11 an11 : Option Addr} {sl11 : Array (Option Value)} {oc11 kV11 dc11 pm11 cd11 ct11 : Value}
    {a12 : Addr} {od12 an12 : Option Addr} {sl12 : Array (Option Value)} {oc12 kV12 dc12 pm12 cd12 ct12 : Value}
    {a13 : Addr} {od13 an13 : Option Addr} {sl13 : Array (Option Value)} {oc13 kV13 dc13 pm13 cd13 ct13 : Value}
    {a14 : Addr} {od14 an14 : Option Addr} {sl14 : Array (Option Value)} {oc14 kV14 dc14 pm14 cd14 ct14 : Value}
    {t0 : Tok}
    {t1 : Tok}
    (a_0 : PySem.W.nsIn K mainGlobals "is_word" = some (some (.ref a0)))
    (l_0 : K.lookup a0 = some ⟨oc0, od0, .func (PySem.W.fnOf "is_word" "is_word" (defArgs (stm .f_is_word)) (defBody (stm .f_is_word)) (defScope (stm .f_is_word)) .none kV0 dc0 pm0 an0 cd0 ct0), sl0⟩)
    (c_0 : PySem.W.codeIn K cd0 "is_word" = true)
    (k_0 : PySem.W.keepIn K (.ref a0) = true)
    (a_1 : PySem.W.nsIn K mainGlobals "once" = some (some (.ref a1)))
    (l_1 : K.lookup a1 = some ⟨oc1, od1, .func (PySem.W.fnOf "once" "once" (defArgs (stm .f_once)) (defBody (stm .f_once)) (defScope (stm .f_once)) .none kV1 dc1 pm1 an1 cd1 ct1), sl1⟩)
    (c_1 : PySem.W.codeIn K cd1 "once" = true)
    (k_1 : PySem.W.keepIn K (.ref a1) = true)
    (a_2 : PySem.W.nsIn K mainGlobals "is_mark" = some (some (.ref a2)))
    (l_2 : K.lookup a2 = some ⟨oc2, od2, .func (PySem.W.fnOf "is_mark" "is_mark" (defArgs (stm .f_is_mark)) (defBody (stm .f_is_mark)) (defScope (stm .f_is_mark)) .none kV2 dc2 pm2 an2 cd2 ct2), sl2⟩)
    (c_2 : PySem.W.codeIn K cd2 "is_mark" = true)
    (k_2 : PySem.W.keepIn K (.ref a2) = true)
    (a_3 : PySem.W.nsIn K mainGlobals "is_kind" = some (some (.ref a3)))
    (l_3 : K.lookup a3 = some ⟨oc3, od3, .func (PySem.W.fnOf "is_kind" "is_kind" (defArgs (stm .f_is_kind)) (defBody (stm .f_is_kind)) (defScope (stm .f_is_kind)) .none kV3 dc3 pm3 an3 cd3 ct3), sl3⟩)
    (c_3 : PySem.W.codeIn K cd3 "is_kind" = true)
    (k_3 : PySem.W.keepIn K (.ref a3) = true)
    (a_4 : PySem.W.nsIn K mainGlobals "is_less" = some (some (.ref a4)))
    (l_4 : K.lookup a4 = some ⟨oc4, od4, .func (PySem.W.fnOf "is_less" "is_less" (defArgs (stm .f_is_less)) (defBody (stm .f_is_less)) (defScope (stm .f_is_less)) .none kV4 dc4 pm4 an4 cd4 ct4), sl4⟩)
    (c_4 : PySem.W.codeIn K cd4 "is_less" = true)
    (k_4 : PySem.W.keepIn K (.ref a4) = true)
    (a_5 : PySem.W.nsIn K mainGlobals "joined" = some (some (.ref a5)))
    (l_5 : K.lookup a5 = some ⟨oc5, od5, .func (PySem.W.fnOf "joined" "joined" (defArgs (stm .f_joined)) (defBody (stm .f_joined)) (defScope (stm .f_joined)) .none kV5 dc5 pm5 an5 cd5 ct5), sl5⟩)
    (c_5 : PySem.W.codeIn K cd5 "joined" = true)
    (k_5 : PySem.W.keepIn K (.ref a5) = true)
    (a_6 : PySem.W.nsIn K mainGlobals "both_of" = some (some (.ref a6)))
    (l_6 : K.lookup a6 = some ⟨oc6, od6, .func (PySem.W.fnOf "both_of" "both_of" (defArgs (stm .f_both_of)) (defBody (stm .f_both_of)) (defScope (stm .f_both_of)) .none kV6 dc6 pm6 an6 cd6 ct6), sl6⟩)
    (c_6 : PySem.W.codeIn K cd6 "both_of" = true)
    (k_6 : PySem.W.keepIn K (.ref a6) = true)
    (a_7 : PySem.W.nsIn K mainGlobals "_law_cell" = some (some (.ref a7)))
    (l_7 : K.lookup a7 = some ⟨oc7, od7, .func (PySem.W.fnOf "_law_cell" "_law_cell" (defArgs (stm .f__law_cell)) (defBody (stm .f__law_cell)) (defScope (stm .f__law_cell)) .none kV7 dc7 pm7 an7 cd7 ct7), sl7⟩)
    (c_7 : PySem.W.codeIn K cd7 "_law_cell" = true)
    (k_7 : PySem.W.keepIn K (.ref a7) = true)
    (a_8 : PySem.W.nsIn K mainGlobals "_law_drawn" = some (some (.ref a8)))
    (l_8 : K.lookup a8 = some ⟨oc8, od8, .func (PySem.W.fnOf "_law_drawn" "_law_drawn" (defArgs (stm .f__law_drawn)) (defBody (stm .f__law_drawn)) (defScope (stm .f__law_drawn)) .none kV8 dc8 pm8 an8 cd8 ct8), sl8⟩)
    (c_8 : PySem.W.codeIn K cd8 "_law_drawn" = true)
    (k_8 : PySem.W.keepIn K (.ref a8) = true)
    (a_9 : PySem.W.nsIn K mainGlobals "_law_odd" = some (some (.ref a9)))
    (l_9 : K.lookup a9 = some ⟨oc9, od9, .func (PySem.W.fnOf "_law_odd" "_law_odd" (defArgs (stm .f__law_odd)) (defBody (stm .f__law_odd)) (defScope (stm .f__law_odd)) .none kV9 dc9 pm9 an9 cd9 ct9), sl9⟩)
    (c_9 : PySem.W.codeIn K cd9 "_law_odd" = true)
    (k_9 : PySem.W.keepIn K (.ref a9) = true)
    (a_10 : PySem.W.nsIn K mainGlobals "_law_spoilt" = some (some (.ref a10)))
    (l_10 : K.lookup a10 = some ⟨oc10, od10, .func (PySem.W.fnOf "_law_spoilt" "_law_spoilt" (defArgs (stm .f__law_spoilt)) (defBody (stm .f__law_spoilt)) (defScope (stm .f__law_spoilt)) .none kV10 dc10 pm10 an10 cd10 ct10), sl10⟩)
    (c_10 : PySem.W.codeIn K cd10 "_law_spoilt" = true)
    (k_10 : PySem.W.keepIn K (.ref a10) = true)
    (a_11 : PySem.W.nsIn K mainGlobals "_law_is_mark" = some (some (.ref a11)))
    (l_11 : K.lookup a11 = some ⟨oc11, od11, .func (PySem.W.fnOf "_law_is_mark" "_law_is_mark" (defArgs (stm .f__law_is_mark)) (defBody (stm .f__law_is_mark)) (defScope (stm .f__law_is_mark)) .none kV11 dc11 pm11 an11 cd11 ct11), sl11⟩)
    (c_11 : PySem.W.codeIn K cd11 "_law_is_mark" = true)
    (k_11 : PySem.W.keepIn K (.ref a11) = true)
    (a_12 : PySem.W.nsIn K mainGlobals "_law_is_kind" = some (some (.ref a12)))
    (l_12 : K.lookup a12 = some ⟨oc12, od12, .func (PySem.W.fnOf "_law_is_kind" "_law_is_kind" (defArgs (stm .f__law_is_kind)) (defBody (stm .f__law_is_kind)) (defScope (stm .f__law_is_kind)) .none kV12 dc12 pm12 an12 cd12 ct12), sl12⟩)
    (c_12 : PySem.W.codeIn K cd12 "_law_is_kind" = true)
    (k_12 : PySem.W.keepIn K (.ref a12) = true)
    (a_13 : PySem.W.nsIn K mainGlobals "_law_kind" = some (some (.ref a13)))
    (l_13 : K.lookup a13 = some ⟨oc13, od13, .func (PySem.W.fnOf "_law_kind" "_law_kind" (defArgs (stm .f__law_kind)) (defBody (stm .f__law_kind)) (defScope (stm .f__law_kind)) .none kV13 dc13 pm13 an13 cd13 ct13), sl13⟩)
    (c_13 : PySem.W.codeIn K cd13 "_law_kind" = true)
    (k_13 : PySem.W.keepIn K (.ref a13) = true)
    (a_14 : PySem.W.nsIn K mainGlobals "law" = some (some (.ref a14)))
    (l_14 : K.lookup a14 = some ⟨oc14, od14, .func (PySem.W.fnOf "law" "law" (defArgs (stm .f_law)) (defBody (stm .f_law)) (defScope (stm .f_law)) .none kV14 dc14 pm14 an14 cd14 ct14), sl14⟩)
    (c_14 : PySem.W.codeIn K cd14 "law" = true)
    (k_14 : PySem.W.keepIn K (.ref a14) = true)
    (z_all : PySem.W.nsIn K mainGlobals "all" = some none)
    (z_bool : PySem.W.nsIn K mainGlobals "bool" = some none)
    (z_enumerate : PySem.W.nsIn K mainGlobals "enumerate" = some none)
    (z_int : PySem.W.nsIn K mainGlobals "int" = some none)
    (z_isinstance : PySem.W.nsIn K mainGlobals "isinstance" = some none)
    (z_len : PySem.W.nsIn K mainGlobals "len" = some none)
    (z_list : PySem.W.nsIn K mainGlobals "list" = some none)
    (z_set : PySem.W.nsIn K mainGlobals "set" = some none)
    (z_sorted : PySem.W.nsIn K mainGlobals "sorted" = some none)
    (z_str : PySem.W.nsIn K mainGlobals "str" = some none)
    (z_tuple : PySem.W.nsIn K mainGlobals "tuple" = some none)
    (z_zip : PySem.W.nsIn K mainGlobals "zip" = some none)
    (g_FIGURES : PySem.W.nsIn K mainGlobals "FIGURES" = some (some (.str "0123456789" t0)))
    (g_SHELVES : PySem.W.nsIn K mainGlobals "SHELVES" = some (some (.str "abcd" t1)))
    : ∃ fd : FuncData, (∀ (s : Shared) (v : Value), BindsTo s fd ⟨[v], []⟩ [("_law_script", v)]) ∧ ∀ base : Heap, K.In base → base.Ns mainGlobals mg → FnOk l.prog w K mg base (L2.CX l.prog w) lev f_a fd ["_law_script"] (spLaw K) := by
  have e := hfa.symm.trans (PySem.W.mg_of X G a_14)
  cases e
  have F0 := fun_mk (st := stm .f_is_word) l_0 c_0 k_0
  have B0 := F0.binds (ps := pas .f_is_word) fun _ _ _ _ _ _ us hl => match us, hl with | [_, _], _ => rfl
  have F1 := fun_mk (st := stm .f_once) l_1 c_1 k_1
  have B1 := F1.binds (ps := pas .f_once) fun _ _ _ _ _ _ us hl => match us, hl with | [_], _ => rfl
  have F2 := fun_mk (st := stm .f_is_mark) l_2 c_2 k_2
  have B2 := F2.binds (ps := pas .f_is_mark) fun _ _ _ _ _ _ us hl => match us, hl with | [_, _], _ => rfl
  have F3 := fun_mk (st := stm .f_is_kind) l_3 c_3 k_3
  have B3 := F3.binds (ps := pas .f_is_kind) fun _ _ _ _ _ _ us hl => match us, hl with | [_, _], _ => rfl
  have F4 := fun_mk (st := stm .f_is_less) l_4 c_4 k_4
  have B4 := F4.binds (ps := pas .f_is_less) fun _ _ _ _ _ _ us hl => match us, hl with | [_, _], _ => rfl
  have F5 := fun_mk (st := stm .f_joined) l_5 c_5 k_5
  have B5 := F5.binds (ps := pas .f_joined) fun _ _ _ _ _ _ us hl => match us, hl with | [_, _], _ => rfl
  have F6 := fun_mk (st := stm .f_both_of) l_6 c_6 k_6
  have B6 := F6.binds (ps := pas .f_both_of) fun _ _ _ _ _ _ us hl => match us, hl with | [_, _], _ => rfl
  have F7 := fun_mk (st := stm .f__law_cell) l_7 c_7 k_7
  have B7 := F7.binds (ps := pas .f__law_cell) fun _ _ _ _ _ _ us hl => match us, hl with | [_, _], _ => rfl
  have F8 := fun_mk (st := stm .f__law_drawn) l_8 c_8 k_8
  have B8 := F8.binds (ps := pas .f__law_drawn) fun _ _ _ _ _ _ us hl => match us, hl with | [_, _, _], _ => rfl
  have F9 := fun_mk (st := stm .f__law_odd) l_9 c_9 k_9
  have B9 := F9.binds (ps := pas .f__law_odd) fun _ _ _ _ _ _ us hl => match us, hl with | [_], _ => rfl
  have F10 := fun_mk (st := stm .f__law_spoilt) l_10 c_10 k_10
  have B10 := F10.binds (ps := pas .f__law_spoilt) fun _ _ _ _ _ _ us hl => match us, hl with | [_, _, _], _ => rfl
  have F11 := fun_mk (st := stm .f__law_is_mark) l_11 c_11 k_11
  have B11 := F11.binds (ps := pas .f__law_is_mark) fun _ _ _ _ _ _ us hl => match us, hl with | [_, _], _ => rfl
  have F12 := fun_mk (st := stm .f__law_is_kind) l_12 c_12 k_12
  have B12 := F12.binds (ps := pas .f__law_is_kind) fun _ _ _ _ _ _ us hl => match us, hl with | [_, _], _ => rfl
  have F13 := fun_mk (st := stm .f__law_kind) l_13 c_13 k_13
  have B13 := F13.binds (ps := pas .f__law_kind) fun _ _ _ _ _ _ us hl => match us, hl with | [_, _, _], _ => rfl
  have F14 := fun_mk (st := stm .f_law) l_14 c_14 k_14
  have B14 := F14.binds (ps := pas .f_law) fun _ _ _ _ _ _ us hl => match us, hl with | [_], _ => rfl
  let fa : Fid → Addr := fun i => match i with | .f_is_word => a0 | .f_once => a1 | .f_is_mark => a2 | .f_is_kind => a3 | .f_is_less => a4 | .f_joined => a5 | .f_both_of => a6 | .f__law_cell => a7 | .f__law_drawn => a8 | .f__law_odd => a9 | .f__law_spoilt => a10 | .f__law_is_mark => a11 | .f__law_is_kind => a12 | .f__law_kind => a13 | .f_law => f_a
  let fdt : Fid → FuncData := fun i => match i with | .f_is_word => PySem.W.fnOf "is_word" "is_word" (defArgs (stm .f_is_word)) (defBody (stm .f_is_word)) (defScope (stm .f_is_word)) .none kV0 dc0 pm0 an0 cd0 ct0 | .f_once => PySem.W.fnOf "once" "once" (defArgs (stm .f_once)) (defBody (stm .f_once)) (defScope (stm .f_once)) .none kV1 dc1 pm1 an1 cd1 ct1 | .f_is_mark => PySem.W.fnOf "is_mark" "is_mark" (defArgs (stm .f_is_mark)) (defBody (stm .f_is_mark)) (defScope (stm .f_is_mark)) .none kV2 dc2 pm2 an2 cd2 ct2 | .f_is_kind => PySem.W.fnOf "is_kind" "is_kind" (defArgs (stm .f_is_kind)) (defBody (stm .f_is_kind)) (defScope (stm .f_is_kind)) .none kV3 dc3 pm3 an3 cd3 ct3 | .f_is_less => PySem.W.fnOf "is_less" "is_less" (defArgs (stm .f_is_less)) (defBody (stm .f_is_less)) (defScope (stm .f_is_less)) .none kV4 dc4 pm4 an4 cd4 ct4 | .f_joined => PySem.W.fnOf "joined" "joined" (defArgs (stm .f_joined)) (defBody (stm .f_joined)) (defScope (stm .f_joined)) .none kV5 dc5 pm5 an5 cd5 ct5 | .f_both_of => PySem.W.fnOf "both_of" "both_of" (defArgs (stm .f_both_of)) (defBody (stm .f_both_of)) (defScope (stm .f_both_of)) .none kV6 dc6 pm6 an6 cd6 ct6 | .f__law_cell => PySem.W.fnOf "_law_cell" "_law_cell" (defArgs (stm .f__law_cell)) (defBody (stm .f__law_cell)) (defScope (stm .f__law_cell)) .none kV7 dc7 pm7 an7 cd7 ct7 | .f__law_drawn => PySem.W.fnOf "_law_drawn" "_law_drawn" (defArgs (stm .f__law_drawn)) (defBody (stm .f__law_drawn)) (defScope (stm .f__law_drawn)) .none kV8 dc8 pm8 an8 cd8 ct8 | .f__law_odd => PySem.W.fnOf "_law_odd" "_law_odd" (defArgs (stm .f__law_odd)) (defBody (stm .f__law_odd)) (defScope (stm .f__law_odd)) .none kV9 dc9 pm9 an9 cd9 ct9 | .f__law_spoilt => PySem.W.fnOf "_law_spoilt" "_law_spoilt" (defArgs (stm .f__law_spoilt)) (defBody (stm .f__law_spoilt)) (defScope (stm .f__law_spoilt)) .none kV10 dc10 pm10 an10 cd10 ct10 | .f__law_is_mark => PySem.W.fnOf "_law_is_mark" "_law_is_mark" (defArgs (stm .f__law_is_mark)) (defBody (stm .f__law_is_mark)) (defScope (stm .f__law_is_mark)) .none kV11 dc11 pm11 an11 cd11 ct11 | .f__law_is_kind => PySem.W.fnOf "_law_is_kind" "_law_is_kind" (defArgs (stm .f__law_is_kind)) (defBody (stm .f__law_is_kind)) (defScope (stm .f__law_is_kind)) .none kV12 dc12 pm12 an12 cd12 ct12 | .f__law_kind => PySem.W.fnOf "_law_kind" "_law_kind" (defArgs (stm .f__law_kind)) (defBody (stm .f__law_kind)) (defScope (stm .f__law_kind)) .none kV13 dc13 pm13 an13 cd13 ct13 | .f_law => PySem.W.fnOf "law" "law" (defArgs (stm .f_law)) (defBody (stm .f_law)) (defScope (stm .f_law)) .none kV14 dc14 pm14 an14 cd14 ct14
  let ca : Cid → Addr := fun i => nomatch i
  let ea : Eid → Addr := fun i => nomatch i
  have T : Tx K mg fa fdt ca ea :=
    { fn := fun i => match i with | .f_is_word => F0 | .f_once => F1 | .f_is_mark => F2 | .f_is_kind => F3 | .f_is_less => F4 | .f_joined => F5 | .f_both_of => F6 | .f__law_cell => F7 | .f__law_drawn => F8 | .f__law_odd => F9 | .f__law_spoilt => F10 | .f__law_is_mark => F11 | .f__law_is_kind => F12 | .f__law_kind => F13 | .f_law => F14,
      bd := fun i => match i with | .f_is_word => B0 | .f_once => B1 | .f_is_mark => B2 | .f_is_kind => B3 | .f_is_less => B4 | .f_joined => B5 | .f_both_of => B6 | .f__law_cell => B7 | .f__law_drawn => B8 | .f__law_odd => B9 | .f__law_spoilt => B10 | .f__law_is_mark => B11 | .f__law_is_kind => B12 | .f__law_kind => B13 | .f_law => B14,
      cl := fun i => (nomatch i),
      xc := fun i => (nomatch i),
      mg_f_is_word := PySem.W.mg_of X G a_0,
      kp_f_is_word := k_0,
      mg_f_once := PySem.W.mg_of X G a_1,
      kp_f_once := k_1,
      mg_f_is_mark := PySem.W.mg_of X G a_2,
      kp_f_is_mark := k_2,
      mg_f_is_kind := PySem.W.mg_of X G a_3,
      kp_f_is_kind := k_3,
      mg_f_is_less := PySem.W.mg_of X G a_4,
      kp_f_is_less := k_4,
      mg_f_joined := PySem.W.mg_of X G a_5,
      kp_f_joined := k_5,
      mg_f_both_of := PySem.W.mg_of X G a_6,
      kp_f_both_of := k_6,
      mg_f__law_cell := PySem.W.mg_of X G a_7,
      kp_f__law_cell := k_7,
      mg_f__law_drawn := PySem.W.mg_of X G a_8,
      kp_f__law_drawn := k_8,
      mg_f__law_odd := PySem.W.mg_of X G a_9,
      kp_f__law_odd := k_9,
      mg_f__law_spoilt := PySem.W.mg_of X G a_10,
      kp_f__law_spoilt := k_10,
      mg_f__law_is_mark := PySem.W.mg_of X G a_11,
      kp_f__law_is_mark := k_11,
      mg_f__law_is_kind := PySem.W.mg_of X G a_12,
      kp_f__law_is_kind := k_12,
      mg_f__law_kind := PySem.W.mg_of X G a_13,
      kp_f__law_kind := k_13,
      mg_f_law := PySem.W.mg_of X G a_14,
      kp_f_law := k_14,
      z_all := PySem.W.mg_none_of X G z_all,
      z_bool := PySem.W.mg_none_of X G z_bool,
      z_enumerate := PySem.W.mg_none_of X G z_enumerate,
      z_int := PySem.W.mg_none_of X G z_int,
      z_isinstance := PySem.W.mg_none_of X G z_isinstance,
      z_len := PySem.W.mg_none_of X G z_len,
      z_list := PySem.W.mg_none_of X G z_list,
      z_set := PySem.W.mg_none_of X G z_set,
      z_sorted := PySem.W.mg_none_of X G z_sorted,
      z_str := PySem.W.mg_none_of X G z_str,
      z_tuple := PySem.W.mg_none_of X G z_tuple,
      z_zip := PySem.W.mg_none_of X G z_zip,
      g_FIGURES := ⟨_, PySem.W.mg_of X G g_FIGURES⟩,
      g_SHELVES := ⟨_, PySem.W.mg_of X G g_SHELVES⟩ }
  exact ⟨fdt .f_law, fun s v => .of_eq rfl, fun base _ _ => ((all_ok (P := l.prog) (w := w) (base := base) T lev).1 .f_law).imp (fun vs H Q E h => sp_law vs H Q E h)⟩
theorem walk {l : PySem.W.OpenLaw} {q : Program} {loose : List Str} {XP : (Str → Option Value) → Heap → Prop} {YP : World → Heap → Prop} {d : DefRec} {K : Params → PySem.W.Frag} (hn : l.most = some 63) (hdf : d.params.defaults = [])
    (hY : ∀ (w : World) (h : Heap), YP w h → (K w.params).In h)
    (F : ∀ (w : World) (mg : Str → Option Value) (fa : Addr) (h : Heap), (K w.params).In h → h.Ns mainGlobals mg → mg d.name = some (.ref fa) →
      ∃ fd : FuncData, (∀ (s : Shared) (u : Value), BindsTo s fd ⟨[u], []⟩ [("_law_script", u)]) ∧ ∀ base : Heap, (K w.params).In base → base.Ns mainGlobals mg → FnOk l.prog w (K w.params) mg base (L2.CX l.prog w) lev fa fd ["_law_script"] (spLaw (K w.params))) :
    PySem.W.WalkO q loose XP YP l.row.toRowW d [] (fun f vs => PySem.call f vs) :=
  L2.walk_of (n := 63) (k := lev) (x := "_law_script") (CX := fun w => L2.CX l.prog w) (sp := fun w => spLaw (K w.params)) hn (by decide) hdf ⟨rfl, by decide, by decide⟩ hY F (fun _ _ a ns hl hO hS => ⟨a, ns, rfl, hS, hO, hl, fun _ => rfl⟩) fun _ _ _ _ _ z => no_exc z
end Lk30
open PySem PySem.W PyProof.Rows in
set_option maxRecDepth 100000 in
set_option maxHeartbeats 0 in
theorem PySem.Challenge.cw_shelfwork_k30_kinds_known_holds : PySem.Challenge.rw_shelfwork_k30_kinds_known.Holds := by
  w_on; o_law; k_head; (case hw => w_witness2)
  k_fill
  refine Lk30.walk (l := PySem.Challenge.rw_shelfwork_k30_kinds_known) rfl rfl (fun w h Y => PySem.W.kIn_of Y) ?F
  case F =>
    intro w mg fa h KX G hmg
    refine' Lk30.all_mk KX G hmg ?a_0 ?l_0 ?c_0 ?k_0 ?a_1 ?l_1 ?c_1 ?k_1 ?a_2 ?l_2 ?c_2 ?k_2 ?a_3 ?l_3 ?c_3 ?k_3 ?a_4 ?l_4 ?c_4 ?k_4 ?a_5 ?l_5 ?c_5 ?k_5 ?a_6 ?l_6 ?c_6 ?k_6 ?a_7 ?l_7 ?c_7 ?k_7 ?a_8 ?l_8 ?c_8 ?k_8 ?a_9 ?l_9 ?c_9 ?k_9 ?a_10 ?l_10 ?c_10 ?k_10 ?a_11 ?l_11 ?c_11 ?k_11 ?a_12 ?l_12 ?c_12 ?k_12 ?a_13 ?l_13 ?c_13 ?k_13 ?a_14 ?l_14 ?c_14 ?k_14 ?z_all ?z_bool ?z_enumerate ?z_int ?z_isinstance ?z_len ?z_list ?z_set ?z_sorted ?z_str ?z_tuple ?z_zip ?g_FIGURES ?g_SHELVES
    (case a_0 => k_is)
    (case l_0 => k_is)
    (case c_0 => k_is)
    (case k_0 => k_is)
    (case a_1 => k_is)
    (case l_1 => k_is)
    (case c_1 => k_is)
    (case k_1 => k_is)
    (case a_2 => k_is)
    (case l_2 => k_is)
    (case c_2 => k_is)
    (case k_2 => k_is)
    (case a_3 => k_is)
    (case l_3 => k_is)
    (case c_3 => k_is)
    (case k_3 => k_is)
    (case a_4 => k_is)
    (case l_4 => k_is)
    (case c_4 => k_is)
    (case k_4 => k_is)
    (case a_5 => k_is)
    (case l_5 => k_is)
    (case c_5 => k_is)
    (case k_5 => k_is)
    (case a_6 => k_is)
    (case l_6 => k_is)
    (case c_6 => k_is)
    (case k_6 => k_is)
    (case a_7 => k_is)
    (case l_7 => k_is)
    (case c_7 => k_is)
    (case k_7 => k_is)
    (case a_8 => k_is)
    (case l_8 => k_is)
    (case c_8 => k_is)
    (case k_8 => k_is)
    (case a_9 => k_is)
    (case l_9 => k_is)
    (case c_9 => k_is)
    (case k_9 => k_is)
    (case a_10 => k_is)
    (case l_10 => k_is)
    (case c_10 => k_is)
    (case k_10 => k_is)
    (case a_11 => k_is)
    (case l_11 => k_is)
    (case c_11 => k_is)
    (case k_11 => k_is)
    (case a_12 => k_is)
    (case l_12 => k_is)
    (case c_12 => k_is)
    (case k_12 => k_is)
    (case a_13 => k_is)
    (case l_13 => k_is)
    (case c_13 => k_is)
    (case k_13 => k_is)
    (case a_14 => k_is)
    (case l_14 => k_is)
    (case c_14 => k_is)
    (case k_14 => k_is)
    (case z_all => k_is)
    (case z_bool => k_is)
    (case z_enumerate => k_is)
    (case z_int => k_is)
    (case z_isinstance => k_is)
    (case z_len => k_is)
    (case z_list => k_is)
    (case z_set => k_is)
    (case z_sorted => k_is)
    (case z_str => k_is)
    (case z_tuple => k_is)
    (case z_zip => k_is)
    (case g_FIGURES => k_is)
    (case g_SHELVES => k_is)


