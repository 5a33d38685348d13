import PyProof.Rows.All
import Wide.All
import OpenK.AllK
import Wide.FinOn
import HandS.ForMost
import HandS.ForExc
import HandS.TupAny
import HandS.TupMul
import HandS.Zip
import HandS.Conv
import HandS.IsInst
import HandS.Strs
import HandS.SetKeys
import HandS.Flow
import HandS.Rev
import HandS.Deep
import HandS.NoneIn
import HandS.More
import HandS.Style
import KE.KDictZip
import KE.GoesZip
import KE.GoesMore
import KE.GoesEnum
import PyProof.DictUpdate
import PySem.Challenge.RW_shelfwork_k17_whole_reckoning
set_option Elab.async false
set_option linter.all false
set_option maxRecDepth 100000
set_option maxHeartbeats 1000000
/-! Values, objects and stores of our own; how they lie in the abstract heap. -/
namespace DL
open PySem L2

/-- a value of ours: a tuple is its items, a list handed in from outside (never written) its items, an object its number -/
inductive D where
  | non | bl (b : Bool) | int (i : Int) | str (s : Str) | tup (ds : List D) | seq (ds : List D) | ref (n : Nat)
/-- an object of ours -/
inductive O where
  | lst (ds : List D)
  | dct (kvs : List (Key × D))
  | ins (c : Str) (fs : List (Str × D))
  | st (ds : List D)
abbrev Sto := List O
inductive R (α : Type) where
  | ok (a : α) (S : Sto)
  | exc (c : Str) (S : Sto)
  | bad
def R.bind {α β : Type} : R α → (α → Sto → R β) → R β
  | .ok a S, k => k a S
  | .exc c S, _ => .exc c S
  | .bad, _ => .bad
@[simp] theorem R.bind_ok {α β : Type} (a : α) (S : Sto) (k : α → Sto → R β) : (R.ok a S).bind k = k a S := rfl
@[simp] theorem R.bind_exc {α β : Type} (c : Str) (S : Sto) (k : α → Sto → R β) : (R.exc c S : R α).bind k = .exc c S := rfl
@[simp] theorem R.bind_bad {α β : Type} (k : α → Sto → R β) : (R.bad : R α).bind k = .bad := rfl
theorem R.bind_assoc {α β γ : Type} (r : R α) (k : α → Sto → R β) (l : β → Sto → R γ) : (r.bind k).bind l = r.bind fun a S => (k a S).bind l := by
  cases r <;> rfl

/-- what is fixed: the written part; where the classes stand -/
structure Gc where
  K : PySem.W.Frag
  cA : Str → Option Addr
  xA : Str → Option Addr

def KL (K : PySem.W.Frag) (a : Addr) (xs : List V) : Prop :=
  ∃ (o : Obj) (its : Array Value) (n : Nat), K.lookup a = some o ∧ o.cls = .type "list" ∧ o.dict = none ∧ o.data = .seq its n ∧ its.size ≤ sizeLine ∧ Vals xs its.toList
def TupA (μ : List Addr) (H : Hp) (a : Addr) (xs : List V) : Prop := a ∉ μ ∧ H a = some (.tup xs)
def LstA (K : PySem.W.Frag) (μ : List Addr) (H : Hp) (a : Addr) (xs : List V) : Prop := (a ∉ μ ∧ ∃ o, H a = some (.frz o (.lst xs))) ∨ KL K a xs
theorem TupA.sq {K : PySem.W.Frag} {μ : List Addr} {H : Hp} {a : Addr} {xs : List V} (h : TupA μ H a xs) : SqT K H a xs := .inl (.inl h.2)
theorem LstA.sq {K : PySem.W.Frag} {μ : List Addr} {H : Hp} {a : Addr} {xs : List V} (h : LstA K μ H a xs) : SqL K H a xs := h.elim (fun h => .inl (.inr h.2)) .inr
theorem LstA.of {K : PySem.W.Frag} {H : Hp} {a : Addr} {xs : List V} (hO : Only H) (h : SqL K H a xs) : LstA K [] H a xs := by
  rcases h with (h | h) | h
  · rcases hO a with z | ⟨o, ys, z⟩
    · rw [z] at h; cases h
    · rw [z] at h; cases h
  · exact .inl ⟨by simp, h⟩
  · exact .inr h

/-- the heap has grown: the objects (by μ) may have changed, new ones are there; nothing else that was there has changed -/
structure Gr (μ : List Addr) (H : Hp) (μ' : List Addr) (H' : Hp) : Prop where
  pre : ∃ ν, μ' = μ ++ ν ∧ ∀ a ∈ ν, H a = none
  keep : ∀ a o, a ∉ μ → H a = some o → H' a = some o
  live : ∀ a, H' a = none → H a = none
theorem Gr.refl {μ : List Addr} {H : Hp} : Gr μ H μ H := ⟨⟨[], by simp, by simp⟩, fun _ _ _ h => h, fun _ h => h⟩
theorem Gr.notin {μ μ' : List Addr} {H H' : Hp} (g : Gr μ H μ' H') {a : Addr} {o : HO} (h : H a = some o) (n : a ∉ μ) : a ∉ μ' := by
  obtain ⟨ν, e, hn⟩ := g.pre
  rw [e]
  intro m
  rcases List.mem_append.mp m with m | m
  · exact n m
  · rw [hn a m] at h
    cases h
theorem Gr.trans {μ μ1 μ2 : List Addr} {H H1 H2 : Hp} (a : Gr μ H μ1 H1) (b : Gr μ1 H1 μ2 H2) : Gr μ H μ2 H2 := by
  refine ⟨?_, fun c o n h => b.keep c o (a.notin h n) (a.keep c o n h), fun c h => a.live c (b.live c h)⟩
  obtain ⟨ν, e, hn⟩ := a.pre
  obtain ⟨ν', e', hn'⟩ := b.pre
  refine ⟨ν ++ ν', by rw [e', e, List.append_assoc], fun c m => ?_⟩
  rcases List.mem_append.mp m with m | m
  · exact hn c m
  · exact a.live c (hn' c m)
/-- what never changes -/
def imm : HO → Bool
  | .tup _ => true
  | .frz _ _ => true
  | _ => false
/-- less than growth: what never changes stands as it was -/
structure Gi (μ : List Addr) (H : Hp) (μ' : List Addr) (H' : Hp) : Prop where
  pre : ∃ ν, μ' = μ ++ ν ∧ ∀ a ∈ ν, ∀ o, H a = some o → imm o = false
  keep : ∀ a o, a ∉ μ → H a = some o → imm o = true → H' a = some o
theorem Gr.i {μ μ' : List Addr} {H H' : Hp} (g : Gr μ H μ' H') : Gi μ H μ' H' := by
  obtain ⟨ν, e, hn⟩ := g.pre
  exact ⟨⟨ν, e, fun a m o h => by rw [hn a m] at h; cases h⟩, fun a o n h _ => g.keep a o n h⟩
theorem Gi.notin {μ μ' : List Addr} {H H' : Hp} (g : Gi μ H μ' H') {a : Addr} {o : HO} (h : H a = some o) (i : imm o = true) (n : a ∉ μ) : a ∉ μ' := by
  obtain ⟨ν, e, hn⟩ := g.pre
  rw [e]
  intro m
  rcases List.mem_append.mp m with m | m
  · exact n m
  · rw [hn a m o h] at i
    cases i
theorem Gi.get {μ μ' : List Addr} {H H' : Hp} (g : Gi μ H μ' H') {n : Nat} {a : Addr} (h : μ[n]? = some a) : μ'[n]? = some a := by
  obtain ⟨ν, e, _⟩ := g.pre
  rw [e, List.getElem?_append_left (List.getElem?_eq_some_iff.mp h).1]
  exact h
theorem TupA.monoI {μ μ' : List Addr} {H H' : Hp} (g : Gi μ H μ' H') {a : Addr} {xs : List V} (h : TupA μ H a xs) : TupA μ' H' a xs :=
  ⟨g.notin h.2 rfl h.1, g.keep _ _ h.1 h.2 rfl⟩
theorem LstA.monoI {K : PySem.W.Frag} {μ μ' : List Addr} {H H' : Hp} (g : Gi μ H μ' H') {a : Addr} {xs : List V} (h : LstA K μ H a xs) : LstA K μ' H' a xs :=
  h.elim (fun ⟨n, o, h⟩ => .inl ⟨g.notin h rfl n, o, g.keep _ _ n h rfl⟩) .inr
theorem Gr.get {μ μ' : List Addr} {H H' : Hp} (g : Gr μ H μ' H') {n : Nat} {a : Addr} (h : μ[n]? = some a) : μ'[n]? = some a := by
  obtain ⟨ν, e, _⟩ := g.pre
  rw [e, List.getElem?_append_left (List.getElem?_eq_some_iff.mp h).1]
  exact h
/-- a new thing that is no object of ours -/
theorem Gr.new {μ : List Addr} {H : Hp} {p : Addr} {o : HO} (h : H p = none) : Gr μ H μ (upd H p o) := by
  refine ⟨⟨[], by simp, by simp⟩, fun a u _ e => ?_, fun a e => ?_⟩
  · rw [upd_ne (ne_of_none e h)]
    exact e
  · by_cases q : a = p
    · rw [q]
      exact h
    · rw [upd_ne q] at e
      exact e
/-- a new object -/
theorem Gr.obj {μ : List Addr} {H : Hp} {p : Addr} {o : HO} (h : H p = none) : Gr μ H (μ ++ [p]) (upd H p o) := by
  refine ⟨⟨[p], rfl, fun a m => by rw [List.mem_singleton.mp m]; exact h⟩, (Gr.new h).keep, (Gr.new (μ := μ) h).live⟩
/-- an object is written -/
theorem Gr.write {μ : List Addr} {H : Hp} {p : Addr} {o : HO} (h : p ∈ μ) : Gr μ H μ (upd H p o) := by
  refine ⟨⟨[], by simp, by simp⟩, fun a u n e => ?_, fun a e => ?_⟩
  · rw [upd_ne fun q : a = p => n (by rw [q]; exact h)]
    exact e
  · by_cases q : a = p
    · rw [q, upd_same] at e
      cases e
    · rw [upd_ne q] at e
      exact e

/-! ### what a value is -/
mutual
inductive RV (K : PySem.W.Frag) (μ : List Addr) (H : Hp) : V → D → Prop
  | non : RV K μ H .non .non
  | bl (b : Bool) : RV K μ H (.bl b) (.bl b)
  | int (i : Int) : RV K μ H (.int i) (.int i)
  | str (x : Str) : RV K μ H (.str x) (.str x)
  | tup {a : Addr} {xs : List V} {ds : List D} : TupA μ H a xs → RVs K μ H xs ds → RV K μ H (.ref a) (.tup ds)
  | seq {a : Addr} {xs : List V} {ds : List D} : LstA K μ H a xs → RVs K μ H xs ds → RV K μ H (.ref a) (.seq ds)
  | ref {n : Nat} {a : Addr} : μ[n]? = some a → RV K μ H (.ref a) (.ref n)
inductive RVs (K : PySem.W.Frag) (μ : List Addr) (H : Hp) : List V → List D → Prop
  | nil : RVs K μ H [] []
  | cons {v : V} {vs : List V} {d : D} {ds : List D} : RV K μ H v d → RVs K μ H vs ds → RVs K μ H (v :: vs) (d :: ds)
end
section
variable {K : PySem.W.Frag} {μ μ' : List Addr} {H H' : Hp}
mutual
theorem RV.monoI (g : Gi μ H μ' H') : ∀ {v : V} {d : D}, RV K μ H v d → RV K μ' H' v d
  | _, _, .non => .non
  | _, _, .bl b => .bl b
  | _, _, .int i => .int i
  | _, _, .str x => .str x
  | _, _, .tup t r => .tup (t.monoI g) (RVs.monoI g r)
  | _, _, .seq t r => .seq (t.monoI g) (RVs.monoI g r)
  | _, _, .ref e => .ref (g.get e)
theorem RVs.monoI (g : Gi μ H μ' H') : ∀ {vs : List V} {ds : List D}, RVs K μ H vs ds → RVs K μ' H' vs ds
  | _, _, .nil => .nil
  | _, _, .cons h t => .cons (RV.monoI g h) (RVs.monoI g t)
end
theorem RV.mono (g : Gr μ H μ' H') {v : V} {d : D} (h : RV K μ H v d) : RV K μ' H' v d := h.monoI g.i
theorem RVs.mono (g : Gr μ H μ' H') {vs : List V} {ds : List D} (h : RVs K μ H vs ds) : RVs K μ' H' vs ds := h.monoI g.i
theorem RVs.length : ∀ {vs : List V} {ds : List D}, RVs K μ H vs ds → vs.length = ds.length
  | _, _, .nil => rfl
  | _, _, .cons _ t => congrArg (· + 1) (RVs.length t)
theorem RVs.get : ∀ {vs : List V} {ds : List D} {i : Nat} {d : D}, RVs K μ H vs ds → ds[i]? = some d → ∃ v, vs[i]? = some v ∧ RV K μ H v d
  | _, _, _, _, .nil, e => by simp at e
  | _, _, 0, _, .cons h _, e => by simp at e; subst e; exact ⟨_, rfl, h⟩
  | _, _, i + 1, d, .cons _ t, e => by
    obtain ⟨v, h1, h2⟩ := RVs.get (i := i) (d := d) t (by simpa using e)
    exact ⟨v, by simpa using h1, h2⟩
theorem RVs.at : ∀ {vs : List V} {ds : List D} {i : Nat} {v : V}, RVs K μ H vs ds → vs[i]? = some v → ∃ d, ds[i]? = some d ∧ RV K μ H v d
  | _, _, _, _, .nil, e => by simp at e
  | _, _, 0, _, .cons h _, e => by simp at e; subst e; exact ⟨_, rfl, h⟩
  | _, _, i + 1, d, .cons _ t, e => by
    obtain ⟨v, h1, h2⟩ := RVs.at (i := i) (v := d) t (by simpa using e)
    exact ⟨v, by simpa using h1, h2⟩
theorem RVs.append : ∀ {vs ws : List V} {ds es : List D}, RVs K μ H vs ds → RVs K μ H ws es → RVs K μ H (vs ++ ws) (ds ++ es)
  | _, _, _, _, .nil, s => s
  | _, _, _, _, .cons h t, s => .cons h (RVs.append t s)
theorem RVs.take : ∀ {vs : List V} {ds : List D} (n : Nat), RVs K μ H vs ds → RVs K μ H (vs.take n) (ds.take n)
  | _, _, 0, _ => by rw [List.take_zero, List.take_zero]; exact .nil
  | _, _, _ + 1, .nil => .nil
  | _, _, n + 1, .cons h t => .cons h (RVs.take n t)
theorem RVs.drop : ∀ {vs : List V} {ds : List D} (n : Nat), RVs K μ H vs ds → RVs K μ H (vs.drop n) (ds.drop n)
  | _, _, 0, r => r
  | _, _, _ + 1, .nil => .nil
  | _, _, n + 1, .cons _ t => RVs.drop n t
theorem RVs.set {v : V} {d : D} (h : RV K μ H v d) : ∀ {vs : List V} {ds : List D} (n : Nat), RVs K μ H vs ds → RVs K μ H (vs.set n v) (ds.set n d)
  | _, _, _, .nil => .nil
  | _, _, 0, .cons _ t => .cons h t
  | _, _, n + 1, .cons q t => .cons q (RVs.set h n t)
theorem RVs.rev : ∀ {vs : List V} {ds : List D}, RVs K μ H vs ds → RVs K μ H vs.reverse ds.reverse
  | _, _, .nil => .nil
  | _, _, .cons h t => by
    rw [List.reverse_cons, List.reverse_cons]
    exact (RVs.rev t).append (.cons h .nil)
theorem RVs.rep {vs : List V} {ds : List D} (h : RVs K μ H vs ds) : ∀ n : Nat, RVs K μ H (List.replicate n vs).flatten (List.replicate n ds).flatten
  | 0 => .nil
  | n + 1 => by
    rw [List.replicate_succ, List.replicate_succ, List.flatten_cons, List.flatten_cons]
    exact h.append (RVs.rep h n)
/-- ints only, bools only, texts only -/
theorem RVs.ints : ∀ {vs : List V} {ns : List Int}, RVs K μ H vs (ns.map D.int) → vs = ns.map V.int
  | _, [], .nil => rfl
  | _, _ :: _, .cons (.int _) t => by rw [RVs.ints t]; rfl
theorem RVs.bls : ∀ {vs : List V} {ns : List Bool}, RVs K μ H vs (ns.map D.bl) → vs = ns.map V.bl
  | _, [], .nil => rfl
  | _, _ :: _, .cons (.bl _) t => by rw [RVs.bls t]; rfl
theorem RVs.strs : ∀ {vs : List V} {ns : List Str}, RVs K μ H vs (ns.map D.str) → vs = ns.map V.str
  | _, [], .nil => rfl
  | _, _ :: _, .cons (.str _) t => by rw [RVs.strs t]; rfl
end

/-- a dict's entries; an instance's fields -/
inductive RKs (K : PySem.W.Frag) (μ : List Addr) (H : Hp) {κ : Type} : List (κ × V) → List (κ × D) → Prop
  | nil : RKs K μ H [] []
  | cons {k : κ} {v : V} {vs : List (κ × V)} {d : D} {ds : List (κ × D)} : RV K μ H v d → RKs K μ H vs ds → RKs K μ H ((k, v) :: vs) ((k, d) :: ds)
theorem RKs.monoI {K : PySem.W.Frag} {μ μ' : List Addr} {H H' : Hp} {κ : Type} (g : Gi μ H μ' H') : ∀ {vs : List (κ × V)} {ds : List (κ × D)}, RKs K μ H vs ds → RKs K μ' H' vs ds
  | _, _, .nil => .nil
  | _, _, .cons h t => .cons (h.monoI g) (RKs.monoI g t)
theorem RKs.mono {K : PySem.W.Frag} {μ μ' : List Addr} {H H' : Hp} {κ : Type} (g : Gr μ H μ' H') {vs : List (κ × V)} {ds : List (κ × D)} (h : RKs K μ H vs ds) : RKs K μ' H' vs ds := h.monoI g.i
theorem RKs.length {K : PySem.W.Frag} {μ : List Addr} {H : Hp} {κ : Type} : ∀ {vs : List (κ × V)} {ds : List (κ × D)}, RKs K μ H vs ds → vs.length = ds.length
  | _, _, .nil => rfl
  | _, _, .cons _ t => congrArg (· + 1) (RKs.length t)

def RO (G : Gc) (μ : List Addr) (H : Hp) (a : Addr) : O → Prop
  | .lst ds => ∃ xs, H a = some (.lst xs) ∧ RVs G.K μ H xs ds
  | .dct ds => ∃ ws, H a = some (.dK ws) ∧ RKs G.K μ H ws ds
  | .ins c fs => ∃ C dx ws, G.cA c = some C ∧ H a = some (.ins C dx ws) ∧ RKs G.K μ H ws fs
  | .st _ => False
structure HS (G : Gc) (μ : List Addr) (S : Sto) (H : Hp) : Prop where
  len : μ.length = S.length
  nd : μ.Nodup
  at_ : ∀ (n : Nat) (a : Addr) (o : O), μ[n]? = some a → S[n]? = some o → RO G μ H a o
section
variable {G : Gc} {μ μ' : List Addr} {S S' : Sto} {H H' : Hp}
theorem HS.there (h : HS G μ S H) {n : Nat} {a : Addr} (e : μ[n]? = some a) : ∃ o, S[n]? = some o ∧ RO G μ H a o := by
  have hn : n < μ.length := (List.getElem?_eq_some_iff.mp e).1
  have hs : n < S.length := by rw [← h.len]; exact hn
  exact ⟨S[n], List.getElem?_eq_getElem hs, h.at_ n a _ e (List.getElem?_eq_getElem hs)⟩
theorem HS.addr (h : HS G μ S H) {n : Nat} {o : O} (e : S[n]? = some o) : ∃ a, μ[n]? = some a ∧ RO G μ H a o := by
  have hn : n < S.length := (List.getElem?_eq_some_iff.mp e).1
  have hs : n < μ.length := by rw [h.len]; exact hn
  exact ⟨μ[n], List.getElem?_eq_getElem hs, h.at_ n _ o (List.getElem?_eq_getElem hs) e⟩
theorem RO.some {a : Addr} {o : O} (h : RO G μ H a o) : ∃ u, H a = some u := by
  cases o with
  | lst ds => obtain ⟨_, h, _⟩ := h; exact ⟨_, h⟩
  | dct ds => obtain ⟨_, h, _⟩ := h; exact ⟨_, h⟩
  | ins c fs => obtain ⟨_, _, _, _, h, _⟩ := h; exact ⟨_, h⟩
  | st ds => exact h.elim
theorem HS.mem (h : HS G μ S H) {a : Addr} (m : a ∈ μ) : ∃ u, H a = some u := by
  obtain ⟨n, e⟩ := List.getElem?_of_mem m
  obtain ⟨o, _, r⟩ := h.there e
  exact r.some
theorem HS.fresh (h : HS G μ S H) {a : Addr} (e : H a = none) : a ∉ μ := fun m => by
  obtain ⟨u, q⟩ := h.mem m
  rw [e] at q
  cases q
theorem RO.keepI (g : Gi μ H μ' H') {a : Addr} {o : O} (e : H' a = H a) (h : RO G μ H a o) : RO G μ' H' a o := by
  cases o with
  | lst ds => obtain ⟨xs, h, r⟩ := h; exact ⟨xs, e.trans h, r.monoI g⟩
  | dct ds => obtain ⟨xs, h, r⟩ := h; exact ⟨xs, e.trans h, r.monoI g⟩
  | ins c fs => obtain ⟨C, dx, ws, hc, h, r⟩ := h; exact ⟨C, dx, ws, hc, e.trans h, r.monoI g⟩
  | st ds => exact h
theorem RO.keep (g : Gr μ H μ' H') {a : Addr} {o : O} (e : H' a = H a) (h : RO G μ H a o) : RO G μ' H' a o := h.keepI g.i e
/-- a new thing beside the objects -/
theorem HS.beside (h : HS G μ S H) {p : Addr} {u : HO} (hp : H p = none) : HS G μ S (upd H p u) := by
  refine ⟨h.len, h.nd, fun n a o e1 e2 => ?_⟩
  have r := h.at_ n a o e1 e2
  obtain ⟨v, hv⟩ := r.some
  exact r.keep (Gr.new hp) (upd_ne (ne_of_none hv hp))
/-- a new object -/
theorem HS.grow (h : HS G μ S H) {p : Addr} {u : HO} {o : O} (hp : H p = none) (r : RO G (μ ++ [p]) (upd H p u) p o) : HS G (μ ++ [p]) (S ++ [o]) (upd H p u) := by
  refine ⟨by simp [h.len], ?_, fun n a o' e1 e2 => ?_⟩
  · rw [List.nodup_append]
    refine ⟨h.nd, by simp, fun a m b m' => ?_⟩
    rw [List.mem_singleton.mp m']
    rintro rfl
    exact h.fresh hp m
  · by_cases hn : n < μ.length
    · rw [List.getElem?_append_left hn] at e1
      rw [List.getElem?_append_left (by rw [← h.len]; exact hn)] at e2
      have r := h.at_ n a o' e1 e2
      obtain ⟨v, hv⟩ := r.some
      exact r.keep (Gr.obj hp) (upd_ne (ne_of_none hv hp))
    · have hn : μ.length ≤ n := Nat.le_of_not_lt hn
      rw [List.getElem?_append_right hn] at e1
      rw [List.getElem?_append_right (by rw [← h.len]; exact hn)] at e2
      have e0 : n - μ.length = 0 := by
        cases q : n - μ.length with
        | zero => rfl
        | succ m => rw [q] at e1; simp at e1
      rw [e0] at e1
      rw [← h.len, e0] at e2
      simp at e1 e2
      subst e1 e2
      exact r
theorem HS.last (h : HS G μ S H) {p : Addr} : (μ ++ [p])[S.length]? = some p := by
  rw [← h.len, List.getElem?_append_right (Nat.le_refl _)]
  simp
/-- an object of ours is written -/
theorem HS.put (h : HS G μ S H) {n : Nat} {p : Addr} {u : HO} {o : O} (e : μ[n]? = some p) (r : RO G μ (upd H p u) p o) : HS G μ (S.set n o) (upd H p u) := by
  have hn : n < μ.length := (List.getElem?_eq_some_iff.mp e).1
  have hm : p ∈ μ := List.mem_of_getElem? e
  refine ⟨by simp [h.len], h.nd, fun m a o' e1 e2 => ?_⟩
  by_cases hmn : n = m
  · subst hmn
    rw [e] at e1
    cases e1
    rw [List.getElem?_set_self (by rw [← h.len]; exact hn)] at e2
    cases e2
    exact r
  · rw [List.getElem?_set_ne hmn] at e2
    have r' := h.at_ m a o' e1 e2
    refine r'.keep (Gr.write hm) (upd_ne fun q => hmn ?_)
    subst q
    exact nd_ix h.nd e e1
end

section
variable {G : Gc} {μ μ1 : List Addr} {S : Sto} {H H1 : Hp} {p : Addr} {xs ys : List V}
/-- a list that is no object of ours is written -/
theorem Gi.aside (hp : H p = some (.lst xs)) : Gi μ H μ (upd H p (.lst ys)) := by
  refine ⟨⟨[], by simp, by simp⟩, fun a o n h i => ?_⟩
  rw [upd_ne]
  · exact h
  · rintro rfl
    rw [hp] at h
    cases h
    cases i
theorem HS.aside (h : HS G μ S H) (hp : H p = some (.lst xs)) (n : p ∉ μ) : HS G μ S (upd H p (.lst ys)) :=
  ⟨h.len, h.nd, fun m a o e1 e2 => (h.at_ m a o e1 e2).keepI (Gi.aside hp) (upd_ne fun q => n (by rw [← q]; exact List.mem_of_getElem? e1))⟩
theorem Gr.aside (g : Gr μ1 H1 μ H) (h1 : H1 p = none) {o : HO} : Gr μ1 H1 μ (upd H p o) := by
  refine ⟨g.pre, fun a u n e => ?_, fun a e => ?_⟩
  · rw [upd_ne (ne_of_none e h1)]
    exact g.keep a u n e
  · by_cases q : a = p
    · rw [q]
      exact h1
    · rw [upd_ne q] at e
      exact g.live a e
/-- .. and becomes one -/
theorem Gi.join (hp : H p = some (.lst xs)) : Gi μ H (μ ++ [p]) H :=
  ⟨⟨[p], rfl, fun a m o e => by rw [List.mem_singleton.mp m, hp] at e; cases e; rfl⟩, fun _ _ _ h _ => h⟩
theorem Gr.join (g : Gr μ1 H1 μ H) (h1 : H1 p = none) : Gr μ1 H1 (μ ++ [p]) H := by
  obtain ⟨ν, e, hn⟩ := g.pre
  refine ⟨⟨ν ++ [p], by rw [e, List.append_assoc], fun a m => ?_⟩, g.keep, g.live⟩
  rcases List.mem_append.mp m with m | m
  · exact hn a m
  · rw [List.mem_singleton.mp m]
    exact h1
theorem HS.join (h : HS G μ S H) (hp : H p = some (.lst xs)) (n : p ∉ μ) {ds : List D} (r : RVs G.K μ H xs ds) : HS G (μ ++ [p]) (S ++ [.lst ds]) H := by
  refine ⟨by simp [h.len], ?_, fun m a o' e1 e2 => ?_⟩
  · rw [List.nodup_append]
    refine ⟨h.nd, by simp, fun a m b m' => ?_⟩
    rw [List.mem_singleton.mp m']
    rintro rfl
    exact n m
  · by_cases hn : m < μ.length
    · rw [List.getElem?_append_left hn] at e1
      rw [List.getElem?_append_left (by rw [← h.len]; exact hn)] at e2
      exact (h.at_ m a o' e1 e2).keepI (Gi.join hp) rfl
    · have hn : μ.length ≤ m := Nat.le_of_not_lt hn
      rw [List.getElem?_append_right hn] at e1
      rw [List.getElem?_append_right (by rw [← h.len]; exact hn)] at e2
      have e0 : m - μ.length = 0 := by
        cases q : m - μ.length with
        | zero => rfl
        | succ m => rw [q] at e1; simp at e1
      rw [e0] at e1
      rw [← h.len, e0] at e2
      simp at e1 e2
      subst e1 e2
      exact ⟨xs, hp, r.monoI (Gi.join hp)⟩
end

/-! ### slots -/
abbrev Env := List (Option D)
def SR (K : PySem.W.Frag) (μ : List Addr) (H : Hp) (σ : L2.St) (ε : Env) : Prop :=
  σ.length = ε.length ∧ ∀ (i : Nat) (d : D), ε[i]? = some (some d) → ∃ v, σ[i]? = some (some v) ∧ RV K μ H v d
section
variable {K : PySem.W.Frag} {μ μ' : List Addr} {H H' : Hp} {σ : L2.St} {ε : Env}
theorem SR.monoI (g : Gi μ H μ' H') (h : SR K μ H σ ε) : SR K μ' H' σ ε :=
  ⟨h.1, fun i d e => let ⟨v, e1, r⟩ := h.2 i d e; ⟨v, e1, r.monoI g⟩⟩
theorem SR.mono (g : Gr μ H μ' H') (h : SR K μ H σ ε) : SR K μ' H' σ ε := h.monoI g.i
theorem SR.set (h : SR K μ H σ ε) {v : V} {d : D} (r : RV K μ H v d) (i : Nat) : SR K μ H (σ.set i (some v)) (ε.set i (some d)) := by
  refine ⟨by simp [h.1], fun j e q => ?_⟩
  by_cases hi : i < ε.length
  · by_cases hj : i = j
    · subst hj
      rw [List.getElem?_set_self hi] at q
      cases q
      exact ⟨v, List.getElem?_set_self (by rw [h.1]; exact hi), r⟩
    · rw [List.getElem?_set_ne hj] at q
      obtain ⟨u, e1, r1⟩ := h.2 j e q
      exact ⟨u, by rw [List.getElem?_set_ne hj]; exact e1, r1⟩
  · have h1 : ε.set i (some d) = ε := List.set_eq_of_length_le (Nat.le_of_not_lt hi)
    have h2 : σ.set i (some v) = σ := List.set_eq_of_length_le (by rw [h.1]; exact Nat.le_of_not_lt hi)
    rw [h1] at q
    rw [h2]
    exact h.2 j e q
end
end DL

set_option Elab.async false
set_option linter.all false
set_option maxRecDepth 100000
set_option maxHeartbeats 1000000
/-! Denotations of expressions: what a reading asks, by our own values. -/
namespace DL
open PySem L2

structure Gt where
  cA : Str → Option Addr
  xA : Str → Option Addr
abbrev gx (X : Cx) (T : Gt) : Gc := ⟨X.K, T.cA, T.xA⟩

/-- what is asked behind something that comes to r -/
def wR {α β : Type} (G : Gc) (W : WX) (Rl : List Addr → Hp → β → α → Prop) (r : R α) (σ : L2.St) (μ : List Addr) (H : Hp) (Q : β → Hp → Prop) : Prop :=
  match r with
  | .ok d S' => ∀ v μ' H', Gr μ H μ' H' → HS G μ' S' H' → Rl μ' H' v d → Q v H'
  | .exc c S' => ∀ C μ' H', G.xA c = some C → Gr μ H μ' H' → HS G μ' S' H' → W (.ref C) none σ H'
  | .bad => False
section
variable {α β γ δ : Type} {G : Gc} {W : WX} {Rl : List Addr → Hp → β → α → Prop} {Rl' : List Addr → Hp → δ → γ → Prop} {σ : L2.St} {ε : Env} {μ μ1 : List Addr} {H H1 : Hp} {S : Sto}
theorem wR.up {r : R α} {Q : β → Hp → Prop} (g : Gr μ H μ1 H1) (h : wR G W Rl r σ μ H Q) : wR G W Rl r σ μ1 H1 Q := by
  cases r with
  | ok d S' => exact fun v μ' H' g' hs rl => h v μ' H' (g.trans g') hs rl
  | exc c S' => exact fun C μ' H' e g' hs => h C μ' H' e (g.trans g') hs
  | bad => exact h
theorem wR.imp {r : R α} {Q Q' : β → Hp → Prop} (h : wR G W Rl r σ μ H Q) (q : ∀ v H', Q v H' → Q' v H') : wR G W Rl r σ μ H Q' := by
  cases r with
  | ok d S' => exact fun v μ' H' g' hs rl => q _ _ (h v μ' H' g' hs rl)
  | exc c S' => exact h
  | bad => exact h
theorem wR.bind {r : R α} {k : α → Sto → R γ} {Q : δ → Hp → Prop} (sr : SR G.K μ H σ ε) (h : wR G W Rl' (r.bind k) σ μ H Q) :
    wR G W Rl r σ μ H fun v H1 => ∃ d μ1 S1, Gr μ H μ1 H1 ∧ HS G μ1 S1 H1 ∧ SR G.K μ1 H1 σ ε ∧ Rl μ1 H1 v d ∧ wR G W Rl' (k d S1) σ μ1 H1 Q := by
  cases r with
  | ok d S' => exact fun v μ' H' g hs rl => ⟨d, μ', S', g, hs, sr.mono g, rl, wR.up g h⟩
  | exc c S' => exact h
  | bad => exact h
theorem wR.here {d : α} {v : β} {Q : β → Hp → Prop} (hs : HS G μ S H) (h : wR G W Rl (.ok d S) σ μ H Q) (r : Rl μ H v d) : Q v H := h v μ H Gr.refl hs r
end

/-- a reading by a denotation -/
def tR {α β : Type} (G : Gc) (W : WX) (Rl : List Addr → Hp → β → α → Prop) (den : Env → Sto → R α) : L2.St → Hp → (β → Hp → Prop) → Prop := fun σ H Q =>
  ∃ ε μ S, SR G.K μ H σ ε ∧ HS G μ S H ∧ wR G W Rl (den ε S) σ μ H Q
def rlV (G : Gc) : List Addr → Hp → V → D → Prop := fun μ H v d => RV G.K μ H v d
def rlB : List Addr → Hp → Bool → Bool → Prop := fun _ _ v d => v = d
def rlA (G : Gc) : List Addr → Hp → List V → List D → Prop := fun μ H v d => RVs G.K μ H v d
def rlO : List Addr → Hp → Option Int → Option Int → Prop := fun _ _ v d => v = d
abbrev Den := Env → Sto → R D
abbrev DenB := Env → Sto → R Bool
abbrev DenA := Env → Sto → R (List D)
abbrev DenO := Env → Sto → R (Option Int)
abbrev tD (G : Gc) (W : WX) (den : Den) : TE := tR G W (rlV G) den
abbrev tDB (G : Gc) (W : WX) (den : DenB) : TT := tR G W rlB den
abbrev tDA (G : Gc) (W : WX) (den : DenA) : TA := tR G W (rlA G) den
abbrev tDO (G : Gc) (W : WX) (den : DenO) : TO := tR G W rlO den
theorem _root_.L2.PE.imp {X : Cx} {e : Expr} {t t' : TE} (h : PE X e t) (q : ∀ σ H Q, t' σ H Q → t σ H Q) : PE X e t' := ⟨fun pins s σ H Q I z => h.run pins s σ H Q I (q _ _ _ z)⟩
theorem _root_.L2.PT.imp {X : Cx} {e : Expr} {t t' : TT} (h : PT X e t) (q : ∀ σ H Q, t' σ H Q → t σ H Q) : PT X e t' := ⟨fun pins s σ H Q I z => h.run pins s σ H Q I (q _ _ _ z)⟩
theorem _root_.L2.PA.imp {X : Cx} {e : List Expr} {t t' : TA} (h : PA X e t) (q : ∀ σ H Q, t' σ H Q → t σ H Q) : PA X e t' := ⟨fun pos pins s σ H Q I z => h.run pos pins s σ H Q I (q _ _ _ z)⟩
theorem _root_.L2.PW.imp {X : Cx} {e : Expr} {t t' : TT} (h : PW X e t) (q : ∀ σ H Q, t' σ H Q → t σ H Q) : PW X e t' := ⟨fun whole pins s σ H Q I z => h.run whole pins s σ H Q I (q _ _ _ z)⟩

section
variable {X : Cx} {T : Gt} {W : WX}
/-! ### constants, names -/
def dC (d : D) : Den := fun _ S => .ok d S
def dVar (i : Nat) : Den := fun ε S => match ε[i]? with
  | some (some d) => .ok d S
  | _ => .bad
theorem pd_int {i : Int} {j : Nat} {pos : Pos} : PE X (.Constant (.int i) j pos) (tD (gx X T) W (dC (.int i))) :=
  pe_int.imp fun _ _ _ ⟨_, _, _, _, hs, h⟩ => wR.here hs h (.int i)
theorem pd_bl {b : Bool} {j : Nat} {pos : Pos} : PE X (.Constant (.bool b) j pos) (tD (gx X T) W (dC (.bl b))) :=
  pe_bl.imp fun _ _ _ ⟨_, _, _, _, hs, h⟩ => wR.here hs h (.bl b)
theorem pd_non {j : Nat} {pos : Pos} : PE X (.Constant .none j pos) (tD (gx X T) W (dC .non)) :=
  pe_non.imp fun _ _ _ ⟨_, _, _, _, hs, h⟩ => wR.here hs h .non
theorem pd_str {x : Str} {j : Nat} {pos : Pos} : PE X (.Constant (.str x) j pos) (tD (gx X T) W (dC (.str x))) :=
  pe_str.imp fun _ _ _ ⟨_, _, _, _, hs, h⟩ => wR.here hs h (.str x)
theorem pd_var (i : Nat) {x : Str} {pos : Pos} (hN : X.N[i]? = some x := by rfl) (hv : Vis X.env.scope x := by first | exact Or.inl rfl | exact Or.inr (Or.inl rfl) | exact Or.inr (Or.inr rfl)) (hd : (x == ("__debug__" : Str)) = false := by decide)
    (hcd : (x == ("__classdict__" : Str)) = false := by decide) : PE X (.Name x pos) (tD (gx X T) W (dVar i)) :=
  (pe_var hN hv hd hcd).imp fun σ H Q ⟨ε, μ, S, sr, hs, h⟩ => by
    unfold dVar at h
    cases e : ε[i]? with
    | none => rw [e] at h; exact h.elim
    | some o =>
      cases o with
      | none => rw [e] at h; exact h.elim
      | some d =>
        rw [e] at h
        obtain ⟨v, e1, r⟩ := sr.2 i d e
        exact ⟨v, e1, wR.here hs h r⟩
theorem pd_gint {x : Str} {i : Int} {t : Tok} {pos : Pos} (hg : Gl X x) (hm : X.mg x = some (.int i t)) (hdb : (x == ("__debug__" : Str)) = false := by decide) : PE X (.Name x pos) (tD (gx X T) W (dC (.int i))) :=
  (pe_glob (v := .int i) hg hm ⟨t, rfl⟩ hdb).imp fun _ _ _ ⟨_, _, _, _, hs, h⟩ => wR.here hs h (.int i)
theorem pd_gstr {x : Str} {i : Str} {t : Tok} {pos : Pos} (hg : Gl X x) (hm : X.mg x = some (.str i t)) (hdb : (x == ("__debug__" : Str)) = false := by decide) : PE X (.Name x pos) (tD (gx X T) W (dC (.str i))) :=
  (pe_glob (v := .str i) hg hm ⟨t, rfl⟩ hdb).imp fun _ _ _ ⟨_, _, _, _, hs, h⟩ => wR.here hs h (.str i)

/-! ### lists of arguments, displays -/
def dNil : DenA := fun _ S => .ok [] S
def dCons (a : Den) (r : DenA) : DenA := fun ε S => (a ε S).bind fun d S => (r ε S).bind fun ds S => .ok (d :: ds) S
theorem pda_nil : PA X [] (tDA (gx X T) W dNil) := pa_nil.imp fun _ _ _ ⟨_, _, _, _, hs, h⟩ => wR.here hs h .nil
theorem pda_cons {e : Expr} {es : List Expr} {a : Den} {r : DenA} (ha : PE X e (tD (gx X T) W a)) (hr : PA X es (tDA (gx X T) W r)) (he : starEach (e :: es) X.env = (false, eval e X.env) :: starEach es X.env := by rfl) :
    PA X (e :: es) (tDA (gx X T) W (dCons a r)) :=
  (pa_cons ha hr he).imp fun σ H Q ⟨ε, μ, S, sr, hs, h⟩ =>
    ⟨ε, μ, S, sr, hs, (wR.bind sr h).imp fun v H1 ⟨d, μ1, S1, g1, hs1, sr1, r1, h1⟩ =>
      ⟨ε, μ1, S1, sr1, hs1, (wR.bind (Rl := rlA (gx X T)) sr1 h1).imp fun vs H2 ⟨ds, μ2, S2, g2, hs2, sr2, r2, h2⟩ => wR.here hs2 h2 (.cons (RV.mono g2 r1) r2)⟩⟩
def big : Nat := 1000000
theorem big_ok {n : Nat} (h : n ≤ big) : n ≤ sizeLine := Nat.le_trans h (by decide)
theorem big_lt {n : Nat} (h : n ≤ big) : n < sizeLine := Nat.lt_of_le_of_lt h (by decide)
def mkTup (ds : List D) (S : Sto) : R D := if ds.length ≤ big then .ok (.tup ds) S else .bad
def mkLst (ds : List D) (S : Sto) : R D := if ds.length ≤ big then .ok (.ref S.length) (S ++ [.lst ds]) else .bad
theorem new_tup {G : Gc} {σ : L2.St} {μ : List Addr} {S : Sto} {H : Hp} {xs : List V} {ds : List D} {Q : VK} (hs : HS G μ S H) (r : RVs G.K μ H xs ds) (h : wR G W (rlV G) (mkTup ds S) σ μ H Q) :
    xs.length ≤ sizeLine ∧ ∀ p, H p = none → Q (.ref p) (upd H p (.tup xs)) := by
  unfold mkTup at h
  split at h
  · refine ⟨by rw [r.length]; exact big_ok ‹_›, fun p hp => h _ _ _ (Gr.new hp) (hs.beside hp) ?_⟩
    exact .tup ⟨hs.fresh hp, upd_same⟩ (r.mono (Gr.new hp))
  · exact h.elim
theorem new_lst {G : Gc} {σ : L2.St} {μ : List Addr} {S : Sto} {H : Hp} {xs : List V} {ds : List D} {Q : VK} (hs : HS G μ S H) (r : RVs G.K μ H xs ds) (h : wR G W (rlV G) (mkLst ds S) σ μ H Q) :
    xs.length ≤ sizeLine ∧ ∀ p, H p = none → Q (.ref p) (upd H p (.lst xs)) := by
  unfold mkLst at h
  split at h
  · refine ⟨by rw [r.length]; exact big_ok ‹_›, fun p hp => h _ _ _ (Gr.obj hp) (hs.grow hp ⟨xs, upd_same, r.mono (Gr.obj hp)⟩) ?_⟩
    exact .ref hs.last
  · exact h.elim
def dTup (a : DenA) : Den := fun ε S => (a ε S).bind mkTup
def dLst (a : DenA) : Den := fun ε S => (a ε S).bind mkLst
theorem pd_tup {es : List Expr} {k : Nat} {pos : Pos} {a : DenA} (ha : PA X es (tDA (gx X T) W a)) : PE X (.Tuple es k pos) (tD (gx X T) W (dTup a)) :=
  (pe_tup ha).imp fun σ H Q ⟨ε, μ, S, sr, hs, h⟩ => ⟨ε, μ, S, sr, hs, (wR.bind (Rl := rlA (gx X T)) sr h).imp fun vs H1 ⟨ds, μ1, S1, g1, hs1, sr1, r1, h1⟩ => new_tup hs1 r1 h1⟩
theorem pd_lst {es : List Expr} {pos : Pos} {a : DenA} (ha : PA X es (tDA (gx X T) W a)) : PE X (.List es pos) (tD (gx X T) W (dLst a)) :=
  (pe_lst ha).imp fun σ H Q ⟨ε, μ, S, sr, hs, h⟩ => ⟨ε, μ, S, sr, hs, (wR.bind (Rl := rlA (gx X T)) sr h).imp fun vs H1 ⟨ds, μ1, S1, g1, hs1, sr1, r1, h1⟩ => new_lst hs1 r1 h1⟩

/-! ### operators -/
abbrev Op := D → D → Sto → R D
def OpD (X : Cx) (T : Gt) (f : Value → Value → Sem Value) (o : Op) : Prop :=
  ∃ r : R2, OpR X f r ∧ ∀ (W : WX) σ μ S H x y d e Q, HS (gx X T) μ S H → RV X.K μ H x d → RV X.K μ H y e → wR (gx X T) W (rlV (gx X T)) (o d e S) σ μ H Q → r x y H Q
def dBin (o : Op) (a b : Den) : Den := fun ε S => (a ε S).bind fun d S => (b ε S).bind fun e S => o d e S
theorem bin_to {o : Op} {r : R2} {a b : Den} (ho : ∀ (W : WX) σ μ S H x y d e Q, HS (gx X T) μ S H → RV X.K μ H x d → RV X.K μ H y e → wR (gx X T) W (rlV (gx X T)) (o d e S) σ μ H Q → r x y H Q) :
    ∀ σ H Q, tD (gx X T) W (dBin o a b) σ H Q → tOp r (tD (gx X T) W a) (tD (gx X T) W b) σ H Q := fun σ H Q ⟨ε, μ, S, sr, hs, h⟩ =>
  ⟨ε, μ, S, sr, hs, (wR.bind (Rl := rlV (gx X T)) sr h).imp fun v H1 ⟨d, μ1, S1, g1, hs1, sr1, r1, h1⟩ =>
    ⟨ε, μ1, S1, sr1, hs1, (wR.bind (Rl := rlV (gx X T)) sr1 h1).imp fun w H2 ⟨e, μ2, S2, g2, hs2, sr2, r2, h2⟩ => ho W σ μ2 S2 H2 v w d e Q hs2 (RV.mono g2 r1) r2 h2⟩⟩
theorem pd_bin {op : Operator} {o : Op} {a b : Expr} {da db : Den} {pos : Pos} (ho : OpD X T (binaryOp op) o) (ha : PE X a (tD (gx X T) W da)) (hb : PE X b (tD (gx X T) W db)) : PE X (.BinOp a op b pos) (tD (gx X T) W (dBin o da db)) := by
  obtain ⟨r, hr, q⟩ := ho
  exact (pe_op hr ha hb).imp (bin_to q)
theorem pd_cmp {op : CmpOp} {o : Op} {a b : Expr} {da db : Den} {pos : Pos} (ho : OpD X T (compareOp op) o) (ha : PE X a (tD (gx X T) W da)) (hb : PE X b (tD (gx X T) W db)) (hm : behindInMarks op b = false) : PE X (.Compare a [op] [b] pos) (tD (gx X T) W (dBin o da db)) := by
  obtain ⟨r, hr, q⟩ := ho
  exact (pe_cmpR hr ha hb hm).imp (bin_to q)
/-- a value as a test: it must be True or False -/
def dTest (a : Den) : DenB := fun ε S => (a ε S).bind fun d S => match d with
  | .bl b => .ok b S
  | _ => .bad
theorem test_to {t : TE} {a : Den} (h0 : ∀ σ H Q, tD (gx X T) W a σ H Q → t σ H Q) : ∀ σ H Q, tDB (gx X T) W (dTest a) σ H Q → tTest t σ H Q := fun σ H Q ⟨ε, μ, S, sr, hs, h⟩ =>
  h0 _ _ _ ⟨ε, μ, S, sr, hs, (wR.bind (Rl := rlV (gx X T)) sr h).imp fun v H1 ⟨d, μ1, S1, g1, hs1, sr1, r1, h1⟩ => by
    have r1 : RV X.K μ1 H1 v d := r1
    cases r1 with
    | bl b => exact ⟨b, rfl, wR.here hs1 h1 rfl⟩
    | _ => exact h1.elim⟩
theorem ptd_cmp {op : CmpOp} {o : Op} {a b : Expr} {da db : Den} {pos : Pos} (ho : OpD X T (compareOp op) o) (ha : PE X a (tD (gx X T) W da)) (hb : PE X b (tD (gx X T) W db)) (hm : behindInMarks op b = false) : PT X (.Compare a [op] [b] pos) (tDB (gx X T) W (dTest (dBin o da db))) := by
  obtain ⟨r, hr, q⟩ := ho
  exact (pt_cmpR hr ha hb hm).imp (test_to (bin_to q))
theorem ptd_val {a : Expr} {da : Den} (ha : PE X a (tD (gx X T) W da)) (hw : ∀ whole, isTrue a X.env whole = (do let v ← whole; standAt a.pos; holding [v] (truthy v)) := by intro _; rfl) : PT X a (tDB (gx X T) W (dTest da)) :=
  (pt_val ha hw).imp (test_to (t := tD (gx X T) W da) fun _ _ _ h => h)

/-! ints, texts, tuples, lists -/
def oAdd : Op := fun d e S => match d, e with
  | .int i, .int j => .ok (.int (i + j)) S
  | .str x, .str y => if x.length + y.length ≤ big then .ok (.str (x ++ y)) S else .bad
  | .tup xs, .tup ys => if xs.length + ys.length ≤ big then .ok (.tup (xs ++ ys)) S else .bad
  | .ref n, .ref m => match S[n]?, S[m]? with
    | some (.lst xs), some (.lst ys) => mkLst (xs ++ ys) S
    | _, _ => .bad
  | _, _ => .bad
theorem HS.lst {G : Gc} {μ : List Addr} {S : Sto} {H : Hp} {v : V} {n : Nat} {ds : List D} (hs : HS G μ S H) (r : RV G.K μ H v (.ref n)) (e : S[n]? = some (.lst ds)) : ∃ a xs, v = .ref a ∧ μ[n]? = some a ∧ H a = some (.lst xs) ∧ RVs G.K μ H xs ds := by
  cases r with
  | ref q =>
    obtain ⟨o, e1, ro⟩ := hs.there q
    rw [e] at e1
    cases e1
    obtain ⟨xs, h1, h2⟩ := ro
    exact ⟨_, xs, rfl, q, h1, h2⟩
theorem HS.dct {G : Gc} {μ : List Addr} {S : Sto} {H : Hp} {v : V} {n : Nat} {ds : List (Key × D)} (hs : HS G μ S H) (r : RV G.K μ H v (.ref n)) (e : S[n]? = some (.dct ds)) : ∃ a xs, v = .ref a ∧ μ[n]? = some a ∧ H a = some (.dK xs) ∧ RKs G.K μ H xs ds := by
  cases r with
  | ref q =>
    obtain ⟨o, e1, ro⟩ := hs.there q
    rw [e] at e1
    cases e1
    obtain ⟨xs, h1, h2⟩ := ro
    exact ⟨_, xs, rfl, q, h1, h2⟩
theorem HS.ins {G : Gc} {μ : List Addr} {S : Sto} {H : Hp} {v : V} {n : Nat} {c : Str} {fs : List (Str × D)} (hs : HS G μ S H) (r : RV G.K μ H v (.ref n)) (e : S[n]? = some (.ins c fs)) :
    ∃ a C dx ws, v = .ref a ∧ μ[n]? = some a ∧ G.cA c = some C ∧ H a = some (.ins C dx ws) ∧ RKs G.K μ H ws fs := by
  cases r with
  | ref q =>
    obtain ⟨o, e1, ro⟩ := hs.there q
    rw [e] at e1
    cases e1
    obtain ⟨C, dx, ws, h1, h2, h3⟩ := ro
    exact ⟨_, C, dx, ws, rfl, q, h1, h2, h3⟩
theorem od_add : OpD X T (binaryOp .Add) oAdd := by
  refine ⟨_, op_add.or (op_add_str.or (op_catA.or op_cat)), fun W σ μ S H x y d e Q hs rx ry h => ?_⟩
  unfold oAdd at h
  split at h
  · cases rx
    cases ry
    exact .inl ⟨_, _, rfl, rfl, wR.here hs h (.int _)⟩
  · split at h
    · cases rx
      cases ry
      exact .inr (.inl ⟨_, _, rfl, rfl, big_ok ‹_›, wR.here hs h (.str _)⟩)
    · exact h.elim
  · split at h
    · cases rx with
      | tup tx rx =>
        cases ry with
        | tup ty ry =>
          refine .inr (.inr (.inl ⟨_, _, _, _, rfl, rfl, tx.sq, ty.sq, by rw [rx.length, ry.length]; exact big_ok ‹_›, fun z => ?_, fun _ z => ?_, fun _ _ p hp => ?_⟩))
          · subst z
            cases rx
            exact wR.here hs h (.tup ty ry)
          · subst z
            cases ry
            rw [List.append_nil] at h
            exact wR.here hs h (.tup tx rx)
          · exact h _ _ _ (Gr.new hp) (hs.beside hp) (.tup ⟨hs.fresh hp, upd_same⟩ ((rx.append ry).mono (Gr.new hp)))
    · exact h.elim
  · split at h
    · obtain ⟨a, xs, rfl, ea, ha, ra⟩ := hs.lst rx ‹_›
      obtain ⟨b, ys, rfl, eb, hb, rb⟩ := hs.lst ry ‹_›
      have z := new_lst hs (ra.append rb) h
      rw [List.length_append] at z
      exact .inr (.inr (.inr ⟨_, _, _, _, rfl, rfl, ha, hb, z.1, z.2⟩))
    · exact h.elim
  · exact h.elim
def oSub : Op := fun d e S => match d, e with
  | .int i, .int j => .ok (.int (i - j)) S
  | _, _ => .bad
theorem od_sub : OpD X T (binaryOp .Sub) oSub := by
  refine ⟨_, op_sub, fun W σ μ S H x y d e Q hs rx ry h => ?_⟩
  unfold oSub at h
  split at h
  · cases rx
    cases ry
    exact ⟨_, _, rfl, rfl, wR.here hs h (.int _)⟩
  · exact h.elim
def oMod : Op := fun d e S => match d, e with
  | .int i, .int j => if 0 < j then .ok (.int (i % j)) S else .bad
  | _, _ => .bad
theorem od_mod : OpD X T (binaryOp .Mod) oMod := by
  refine ⟨_, op_mod, fun W σ μ S H x y d e Q hs rx ry h => ?_⟩
  unfold oMod at h
  split at h
  · split at h
    · cases rx
      cases ry
      exact ⟨_, _, rfl, rfl, ‹_›, wR.here hs h (.int _)⟩
    · exact h.elim
  · exact h.elim
def oDiv : Op := fun d e S => match d, e with
  | .int i, .int j => if 0 < j ∧ j < 1073741824 then .ok (.int (i / j)) S else .bad
  | _, _ => .bad
theorem od_div : OpD X T (binaryOp .FloorDiv) oDiv := by
  refine ⟨_, op_fdiv, fun W σ μ S H x y d e Q hs rx ry h => ?_⟩
  unfold oDiv at h
  split at h
  · split at h
    · cases rx
      cases ry
      exact ⟨_, _, rfl, rfl, ‹_›, wR.here hs h (.int _)⟩
    · exact h.elim
  · exact h.elim
end
end DL

set_option Elab.async false
set_option linter.all false
set_option maxRecDepth 100000
set_option maxHeartbeats 1000000
/-! tuple * int where the tuple itself comes back -/
namespace L2
open PySem PySem.Spec PyProof.Rows
theorem tuple_mul_self (l : Addr) (items : Array Value) (n : Nat) (dd : Option Addr) (sl : Array (Option Value)) (x : Int) (u : Tok) (c0 : (decide (x < -(2 ^ 63)) || decide (x ≥ 2 ^ 63)) = false) (c1 : (items.isEmpty || x == 1) = true) :
    Meets (Builtin.«tuple.__mul__» ⟨[.ref l, .int x u], []⟩) (fun _ R s => s.heap.get? l = some { cls := .type "tuple", dict := dd, data := .seq items n, slots := sl } ∧ R (.ok (.ret (Value.ref l))) { s with heap := s.heap, toks := s.toks }) :=
  .of_wp fun prog w A R s h => by
    obtain ⟨hp, g, d, tk, os⟩ := s
    obtain ⟨hl, h⟩ := h
    have f1 := AutoSeq1.idx_int
    wp_walk using wpAny_loadPart' hl
    repeat (first
      | (refine wpAny_ite_false (decide_eq_false (by rw [c0]; exact Bool.false_ne_true)) ?_; wp_walk using wpAny_loadPart' hl)
      | (refine wpAny_ite_true (decide_eq_true c1) ?_; wp_walk using wpAny_loadPart' hl))
    exact ⟨_, rfl, h⟩
section
variable {X : Cx}
def rRepSelf (K : PySem.W.Frag) : R2 := fun x y H Q => ∃ l k xs, x = .ref l ∧ y = .int k ∧ SqT K H l xs ∧ (xs = [] ∨ k = 1) ∧ 0 ≤ k ∧ k ≤ 1000 ∧ Q (.ref l) H
theorem op_repSelf : OpR X (binaryOp .Mult) (rRepSelf X.K) := by
  intro pins s σ H x y v u Q I rx ry h
  obtain ⟨l, k, xs, rfl, rfl, hT, hne, h1, h2, q⟩ := h
  cases rx
  obtain ⟨t, rfl⟩ := ry
  obtain ⟨its, r, ⟨⟨cls, dd, data, sl⟩, ho, hc, n, hd⟩, hs⟩ := I.tuple hT
  simp only at hc hd
  subst hc hd
  have c0 : (decide (k < -(2 ^ 63)) || decide (k ≥ 2 ^ 63)) = false := by
    rw [decide_eq_false (by omega), decide_eq_false (by omega)] <;> rfl
  have c1 : (its.toArray.isEmpty || k == 1) = true := by
    rcases hne with e | e
    · subst e
      cases r
      rfl
    · subst e
      simp
  refine wpAny_binaryOp_repeat_ref (T := "tuple") (U := "int") (by decide) ⟨_, ho, rfl⟩ (fun s' => typeIs_int s' k t) noFill_tuple_mul F.fills_int_mul F.slot_int_rmul repeat_tuple F.slot_int_index.lookup
    (call_meets F.slot_int_rmul (typeIs_int s k t) F.entry_int_rmul (F.args_int_rmul_2 _ _) (int_rmul_tuple k t l its.toArray n dd sl)
      ⟨ho, rfl, ⟨_, ho, rfl⟩, call_meets F.slot_tuple_mul ⟨_, ho, rfl⟩ F.entry_tuple_mul (F.args_tuple_mul_2 _ _) (tuple_mul_self l its.toArray n dd sl k t c0 c1) ⟨ho, ?_⟩⟩)
  exact ⟨.ref l, H, I, rfl, q⟩
/-- in, not in a tuple of data -/
def rInT (K : PySem.W.Frag) : R2 := fun x y H Q => ∃ d ds, Dp K H x d ∧ Dp K H y (.tuple ds) ∧ SeqAt.shaped d = true ∧ SeqAt.shaped (.tuple ds) = true ∧ Q (.bl (ds.any fun z => PyData.eqv z d)) H
def rNotInT (K : PySem.W.Frag) : R2 := fun x y H Q => ∃ d ds, Dp K H x d ∧ Dp K H y (.tuple ds) ∧ SeqAt.shaped d = true ∧ SeqAt.shaped (.tuple ds) = true ∧ Q (.bl (!ds.any fun z => PyData.eqv z d)) H
theorem op_inTD (hu : X.A.units + 65 < cLine) : OpR X (compareOp .In) (rInT X.K) := by
  intro pins s σ H x y v u Q I rx ry h
  obtain ⟨d, ds, hd, he, sd, se, q⟩ := h
  obtain ⟨as, r1⟩ := Dp.reads I d x v hd rx
  obtain ⟨bs, r2⟩ := Dp.reads I (.tuple ds) y u he ry
  exact SeqAt.in_tuple_reads r2 r1 (SeqAt.canLay_of_shaped se) (SeqAt.canLay_of_shaped sd) (room_in_shaped sd hu) ⟨.bl _, H, I, rfl, q⟩
theorem op_notInTD (hu : X.A.units + 65 < cLine) : OpR X (compareOp .NotIn) (rNotInT X.K) := by
  intro pins s σ H x y v u Q I rx ry h
  obtain ⟨d, ds, hd, he, sd, se, q⟩ := h
  obtain ⟨as, r1⟩ := Dp.reads I d x v hd rx
  obtain ⟨bs, r2⟩ := Dp.reads I (.tuple ds) y u he ry
  exact SeqAt.notIn_tuple_reads r2 r1 (SeqAt.canLay_of_shaped se) (SeqAt.canLay_of_shaped sd) (room_in_shaped sd hu) ⟨.bl _, H, I, rfl, q⟩
end
end L2
namespace DL
open PySem L2
section
variable {X : Cx} {T : Gt} {W : WX}
/-! ### * ** - -/
def oMul : Op := fun d e S => match d, e with
  | .int i, .int j => if (-(2 ^ 64) < i ∧ i < 2 ^ 64) ∨ (-(2 ^ 64) < j ∧ j < 2 ^ 64) then .ok (.int (i * j)) S else .bad
  | .tup xs, .int k => if 0 ≤ k ∧ k ≤ 1000 ∧ (xs = [] ∨ k = 1) then .ok (.tup xs) S else if 2 ≤ k ∧ k ≤ 1000 ∧ xs.length ≤ 1000 then .ok (.tup (List.replicate k.toNat xs).flatten) S else .bad
  | .ref n, .int k => match S[n]? with
    | some (.lst xs) => if -(2 ^ 63) ≤ k ∧ k < 2 ^ 63 ∧ xs.length * k.toNat ≤ big then .ok (.ref S.length) (S ++ [.lst (List.replicate k.toNat xs).flatten]) else .bad
    | _ => .bad
  | _, _ => .bad
theorem od_mul : OpD X T (binaryOp .Mult) oMul := by
  refine ⟨_, op_mul.or (op_repSelf.or (op_repT.or op_rep)), fun W σ μ S H x y d e Q hs rx ry h => ?_⟩
  unfold oMul at h
  split at h
  · split at h
    · cases rx
      cases ry
      exact .inl ⟨_, _, rfl, rfl, ‹_›, wR.here hs h (.int _)⟩
    · exact h.elim
  · cases ry
    cases rx with
    | tup tx rx =>
      split at h
      · rename_i hyes
        obtain ⟨h1, h2, h3⟩ := hyes
        refine .inr (.inl ⟨_, _, _, rfl, rfl, tx.sq, ?_, h1, h2, wR.here hs h (.tup tx rx)⟩)
        rcases h3 with h3 | h3
        · subst h3
          cases rx
          exact .inl rfl
        · exact .inr h3
      · rename_i hno
        split at h
        · rename_i hyes
          obtain ⟨h1, h2, h3⟩ := hyes
          refine .inr (.inr (.inl ⟨_, _, _, rfl, rfl, tx.sq, fun z => hno ⟨by omega, h2, .inl ?_⟩, h1, h2, by rw [rx.length]; exact h3, fun p hp => ?_⟩))
          · subst z
            cases rx
            rfl
          · exact h _ _ _ (Gr.new hp) (hs.beside hp) (.tup ⟨hs.fresh hp, upd_same⟩ ((rx.rep _).mono (Gr.new hp)))
        · exact h.elim
  · split at h
    · split at h
      · rename_i hyes
        cases ry
        obtain ⟨h1, h2, h3⟩ := hyes
        obtain ⟨a, xs, rfl, ea, ha, ra⟩ := hs.lst rx ‹_›
        refine .inr (.inr (.inr ⟨_, _, _, rfl, rfl, ha, h1, h2, ?_, fun p hp => ?_⟩))
        · rw [ra.length]
          exact big_ok h3
        · exact h _ _ _ (Gr.obj hp) (hs.grow hp ⟨_, upd_same, (ra.rep _).mono (Gr.obj hp)⟩) (.ref hs.last)
      · exact h.elim
    · exact h.elim
  · exact h.elim
def oPow : Op := fun d e S => match d, e with
  | .int i, .int j => if 0 ≤ j ∧ j ≤ 1000000 ∧ i.natAbs < 2 ^ 64 then .ok (.int (i ^ j.toNat)) S else .bad
  | _, _ => .bad
theorem od_pow : OpD X T (binaryOp .Pow) oPow := by
  refine ⟨_, op_pow, fun W σ μ S H x y d e Q hs rx ry h => ?_⟩
  unfold oPow at h
  split at h
  · split at h
    · cases rx
      cases ry
      exact ⟨_, _, rfl, rfl, ‹_›, wR.here hs h (.int _)⟩
    · exact h.elim
  · exact h.elim
def dNeg (a : Den) : Den := fun ε S => (a ε S).bind fun d S => match d with
  | .int i => .ok (.int (-i)) S
  | _ => .bad
theorem pd_neg {a : Expr} {da : Den} {pos : Pos} (ha : PE X a (tD (gx X T) W da)) : PE X (.UnaryOp .USub a pos) (tD (gx X T) W (dNeg da)) :=
  (pe_un un_neg ha).imp fun σ H Q ⟨ε, μ, S, sr, hs, h⟩ => ⟨ε, μ, S, sr, hs, (wR.bind (Rl := rlV (gx X T)) sr h).imp fun v H1 ⟨d, μ1, S1, g1, hs1, sr1, r1, h1⟩ => by
    have r1 : RV X.K μ1 H1 v d := r1
    cases r1 with
    | int i => exact ⟨i, rfl, wR.here hs1 h1 (.int _)⟩
    | _ => exact h1.elim⟩

/-! ### comparisons -/
def oInt (f : Int → Int → Bool) : Op := fun d e S => match d, e with
  | .int i, .int j => .ok (.bl (f i j)) S
  | _, _ => .bad
theorem od_int {op : CmpOp} {f : Int → Int → Bool} (ho : OpR X (compareOp op) (rI0 fun i j => .bl (f i j))) : OpD X T (compareOp op) (oInt f) := by
  refine ⟨_, ho, fun W σ μ S H x y d e Q hs rx ry h => ?_⟩
  unfold oInt at h
  split at h
  · cases rx
    cases ry
    exact ⟨_, _, rfl, rfl, wR.here hs h (.bl _)⟩
  · exact h.elim
abbrev oLt : Op := oInt fun i j => decide (i < j)
abbrev oLe : Op := oInt fun i j => decide (i ≤ j)
abbrev oGt : Op := oInt fun i j => decide (j < i)
abbrev oGe : Op := oInt fun i j => decide (j ≤ i)
theorem od_lt : OpD X T (compareOp .Lt) oLt := od_int op_lt
theorem od_le : OpD X T (compareOp .LtE) oLe := od_int op_le
theorem od_gt : OpD X T (compareOp .Gt) oGt := od_int op_gt
theorem od_ge : OpD X T (compareOp .GtE) oGe := od_int op_ge
def oIsN : Op := fun d e S => match e with
  | .non => .ok (.bl (match d with | .non => true | _ => false)) S
  | _ => .bad
def oNotN : Op := fun d e S => match e with
  | .non => .ok (.bl (match d with | .non => false | _ => true)) S
  | _ => .bad
theorem od_isN : OpD X T (compareOp .Is) oIsN := by
  refine ⟨_, op_isN, fun W σ μ S H x y d e Q hs rx ry h => ?_⟩
  unfold oIsN at h
  split at h
  · cases ry
    refine ⟨rfl, wR.here hs h ?_⟩
    cases rx <;> exact .bl _
  · exact h.elim
theorem od_notN : OpD X T (compareOp .IsNot) oNotN := by
  refine ⟨_, op_notN, fun W σ μ S H x y d e Q hs rx ry h => ?_⟩
  unfold oNotN at h
  split at h
  · cases ry
    refine ⟨rfl, wR.here hs h ?_⟩
    cases rx <;> exact .bl _
  · exact h.elim

/-! ### a value as data -/
def fall {α β : Type} (f : α → Option β) : List α → Option (List β)
  | [] => some []
  | a :: r => match f a, fall f r with
    | some b, some s => some (b :: s)
    | _, _ => none
def frz : Nat → Sto → D → Option PyData
  | 0, _, _ => none
  | n + 1, S, d => match d with
    | .non => some .none
    | .bl b => some (.bool b)
    | .int i => some (.int i)
    | .str x => some (.str x)
    | .tup ds => (fall (frz n S) ds).map .tuple
    | .seq ds => (fall (frz n S) ds).map .list
    | .ref m => match S[m]? with
      | some (.lst ds) => (fall (frz n S) ds).map .list
      | _ => none
theorem fall_dp {K : PySem.W.Frag} {μ : List Addr} {H : Hp} {f : D → Option PyData} (hf : ∀ v d p, RV K μ H v d → f d = some p → Dp K H v p) : ∀ {vs : List V} {ds : List D} {ps : List PyData}, RVs K μ H vs ds → fall f ds = some ps → DpAll K H vs ps
  | _, _, _, .nil, e => by cases e; exact .nil
  | _, d :: ds, _, .cons h t, e => by
    unfold fall at e
    split at e
    · cases e
      exact .cons (hf _ _ _ h ‹_›) (fall_dp hf t ‹_›)
    · cases e
theorem frz_dp {G : Gc} {μ : List Addr} {S : Sto} {H : Hp} (hs : HS G μ S H) : ∀ (n : Nat) {v : V} {d : D} {p : PyData}, RV G.K μ H v d → frz n S d = some p → Dp G.K H v p
  | 0, _, _, _, _, e => by cases e
  | n + 1, v, d, p, r, e => by
    have ih : ∀ v d p, RV G.K μ H v d → frz n S d = some p → Dp G.K H v p := fun v d p => frz_dp hs n
    unfold frz at e
    cases r with
    | non => cases e; exact .non
    | bl b => cases e; exact .bl b
    | int i => cases e; exact .int i
    | str x => cases e; exact .str x
    | tup t rs =>
      obtain ⟨ps, e1, rfl⟩ := Option.map_eq_some_iff.mp e
      exact .tup t.sq (fall_dp ih rs e1)
    | seq t rs =>
      obtain ⟨ps, e1, rfl⟩ := Option.map_eq_some_iff.mp e
      exact .lst t.sq (fall_dp ih rs e1)
    | ref q =>
      simp only at e
      split at e
      · obtain ⟨ps, e1, rfl⟩ := Option.map_eq_some_iff.mp e
        obtain ⟨a, xs, ev, ea, ha, ra⟩ := hs.lst (RV.ref q) ‹_›
        cases ev
        exact .lst (.inl (.inl ha)) (fall_dp ih ra e1)
      · cases e
def deep : Nat := 40
/-- == of scalars that tell apart plainly -/
def sEq : D → D → Option Bool
  | .non, .non => some true
  | .non, .int _ => some false | .int _, .non => some false | .non, .bl _ => some false | .bl _, .non => some false | .non, .str _ => some false | .str _, .non => some false
  | .int i, .int j => some (decide (i = j))
  | .bl i, .bl j => some (decide (i = j))
  | .str i, .str j => some (decide (i = j))
  | .int _, .str _ => some false | .str _, .int _ => some false | .bl _, .str _ => some false | .str _, .bl _ => some false
  | _, _ => none
def dEq (S : Sto) (d e : D) : Option Bool := match sEq d e with
  | some b => some b
  | none => match frz deep S d, frz deep S e with
    | some p, some q => if SeqAt.shaped p = true ∧ SeqAt.shaped q = true then some (PyData.eqv p q) else none
    | _, _ => none
def oEq : Op := fun d e S => match dEq S d e with
  | some b => .ok (.bl b) S
  | none => .bad
def oNe : Op := fun d e S => match dEq S d e with
  | some b => .ok (.bl !b) S
  | none => .bad
theorem sEq_of {K : PySem.W.Frag} {μ : List Addr} {H : Hp} {x y : V} {d e : D} {b : Bool} (rx : RV K μ H x d) (ry : RV K μ H y e) (h : sEq d e = some b) : scal x y = true ∧ decide (x = y) = b := by
  cases rx <;> cases ry <;> first
    | (cases h; exact ⟨rfl, by simp⟩)
    | (cases h)
theorem od_eq (hu : X.A.units + 64 < cLine) : OpD X T (compareOp .Eq) oEq := by
  refine ⟨_, op_eq.or (op_eqD hu), fun W σ μ S H x y d e Q hs rx ry h => ?_⟩
  unfold oEq at h
  split at h
  · rename_i b hb
    unfold dEq at hb
    split at hb
    · cases hb
      obtain ⟨h1, h2⟩ := sEq_of rx ry ‹_›
      refine .inl ⟨h1, ?_⟩
      rw [h2]
      exact wR.here hs h (.bl _)
    · split at hb
      · split at hb
        · cases hb
          obtain ⟨h1, h2⟩ := ‹_ ∧ _›
          exact .inr ⟨_, _, frz_dp hs _ rx ‹_›, frz_dp hs _ ry ‹_›, h1, h2, wR.here hs h (.bl _)⟩
        · cases hb
      · cases hb
  · exact h.elim
theorem od_ne (hu : X.A.units + 64 < cLine) : OpD X T (compareOp .NotEq) oNe := by
  refine ⟨_, op_ne.or (op_neD hu), fun W σ μ S H x y d e Q hs rx ry h => ?_⟩
  unfold oNe at h
  split at h
  · rename_i b hb
    unfold dEq at hb
    split at hb
    · cases hb
      obtain ⟨h1, h2⟩ := sEq_of rx ry ‹_›
      refine .inl ⟨h1, ?_⟩
      rw [h2]
      exact wR.here hs h (.bl _)
    · split at hb
      · split at hb
        · cases hb
          obtain ⟨h1, h2⟩ := ‹_ ∧ _›
          exact .inr ⟨_, _, frz_dp hs _ rx ‹_›, frz_dp hs _ ry ‹_›, h1, h2, wR.here hs h (.bl _)⟩
        · cases hb
      · cases hb
  · exact h.elim
end
end DL

set_option Elab.async false
set_option linter.all false
set_option maxRecDepth 100000
set_option maxHeartbeats 1000000
namespace DL
open PySem L2
section
variable {X : Cx} {T : Gt} {W : WX}
/-! ### in, not in -/
def flatD : D → Bool
  | .non => true | .bl _ => true | .int _ => true | .str _ => true
  | _ => false
def eqF : D → D → Bool
  | .non, .non => true
  | .bl a, .bl b => a == b
  | .bl a, .int b => (if a then 1 else 0) == b
  | .int a, .bl b => a == (if b then 1 else 0)
  | .int a, .int b => a == b
  | .str a, .str b => a == b
  | _, _ => false
theorem flat_of {K : PySem.W.Frag} {μ : List Addr} {H : Hp} {v : V} {d : D} (r : RV K μ H v d) : flatV v = flatD d := by cases r <;> rfl
theorem eqF_of {K : PySem.W.Frag} {μ : List Addr} {H : Hp} {x y : V} {d e : D} (r : RV K μ H x d) (r' : RV K μ H y e) : eqV x y = eqF d e := by cases r <;> cases r' <;> rfl
theorem flats_of {K : PySem.W.Frag} {μ : List Addr} {H : Hp} : ∀ {vs : List V} {ds : List D}, RVs K μ H vs ds → vs.all flatV = ds.all flatD
  | _, _, .nil => rfl
  | _, _, .cons h t => by rw [List.all_cons, List.all_cons, flat_of h, flats_of t]
theorem inV_of {K : PySem.W.Frag} {μ : List Addr} {H : Hp} {x : V} {d : D} (r : RV K μ H x d) : ∀ {vs : List V} {ds : List D}, RVs K μ H vs ds → inV x vs = ds.any fun e => eqF e d
  | _, _, .nil => rfl
  | v :: vs, e :: ds, .cons h t => by
    have q := inV_of r t
    unfold inV at q ⊢
    rw [List.any_cons, List.any_cons, eqF_of h r, q]
/-- the items of a list or a tuple -/
def items (S : Sto) : D → Option (List D)
  | .tup ds => some ds
  | .seq ds => some ds
  | .ref n => match S[n]? with
    | some (.lst ds) => some ds
    | _ => none
  | _ => none
theorem items_of {G : Gc} {μ : List Addr} {S : Sto} {H : Hp} (hs : HS G μ S H) {v : V} {d : D} {ds : List D} (r : RV G.K μ H v d) (e : items S d = some ds) : ∃ a xs, v = .ref a ∧ (SqL G.K H a xs ∨ SqT G.K H a xs) ∧ RVs G.K μ H xs ds := by
  cases r with
  | tup t rs => cases e; exact ⟨_, _, rfl, .inr t.sq, rs⟩
  | seq t rs => cases e; exact ⟨_, _, rfl, .inl t.sq, rs⟩
  | ref q =>
    simp only [items] at e
    split at e
    · cases e
      obtain ⟨a, xs, ev, ea, ha, ra⟩ := hs.lst (RV.ref q) ‹_›
      exact ⟨a, xs, ev, .inl (.inl (.inl ha)), ra⟩
    · cases e
  | _ => cases e
def inD (S : Sto) (d e : D) : Option Bool := match d, e with
  | .str x, .str y => if x.cps.size = 1 then some (decide (x.cps.getD 0 0 ∈ y.cps.toList)) else none
  | d, e => match items S e with
    | some ds => if flatD d = true ∧ ds.all flatD = true then some (ds.any fun z => eqF z d) else
      match frz deep S d, frz deep S e with
      | some p, some (.list ps) => if SeqAt.shaped p = true ∧ SeqAt.shaped (.list ps) = true then some (ps.any fun z => PyData.eqv z p) else none
      | some p, some (.tuple ps) => if SeqAt.shaped p = true ∧ SeqAt.shaped (.tuple ps) = true then some (ps.any fun z => PyData.eqv z p) else none
      | _, _ => none
    | none => none
def oIn : Op := fun d e S => match inD S d e with
  | some b => .ok (.bl b) S
  | none => .bad
def oNotIn : Op := fun d e S => match inD S d e with
  | some b => .ok (.bl !b) S
  | none => .bad
theorem sign_eta {x : Str} (h : x.cps.size = 1) : x = ⟨#[x.cps.getD 0 0]⟩ := by
  obtain ⟨c⟩ := x
  obtain ⟨l⟩ := c
  match l, h with
  | [a], _ => rfl
theorem inD_to {G : Gc} {σ : L2.St} {μ : List Addr} {S : Sto} {H : Hp} {x y : V} {d e : D} {b : Bool} (hs : HS G μ S H) (rx : RV G.K μ H x d) (ry : RV G.K μ H y e) (h : inD S d e = some b) (neg : Bool) {Q : VK} (q : Q (.bl (if neg then !b else b)) H) :
    (∃ c z, x = V.str ⟨#[c]⟩ ∧ y = V.str z ∧ Q (.bl (if neg then !(decide (c ∈ z.cps.toList)) else decide (c ∈ z.cps.toList))) H) ∨ rIn G.K neg x y H Q ∨
    (∃ p ps, Dp G.K H x p ∧ Dp G.K H y (.list ps) ∧ SeqAt.shaped p = true ∧ SeqAt.shaped (.list ps) = true ∧ Q (.bl (if neg then !(ps.any fun z => PyData.eqv z p) else (ps.any fun z => PyData.eqv z p))) H) ∨
    (∃ p ps, Dp G.K H x p ∧ Dp G.K H y (.tuple ps) ∧ SeqAt.shaped p = true ∧ SeqAt.shaped (.tuple ps) = true ∧ Q (.bl (if neg then !(ps.any fun z => PyData.eqv z p) else (ps.any fun z => PyData.eqv z p))) H) := by
  unfold inD at h
  split at h
  · split at h
    · rename_i hx
      cases h
      cases rx
      cases ry
      exact .inl ⟨_, _, congrArg V.str (sign_eta hx), rfl, q⟩
    · cases h
  · split at h
    · rename_i ds hd
      split at h
      · rename_i hf
        cases h
        obtain ⟨a, xs, ev, hq, rs⟩ := items_of hs ry hd
        refine .inr (.inl ⟨a, xs, ev, hq, by rw [flat_of rx]; exact hf.1, by rw [flats_of rs]; exact hf.2, ?_⟩)
        rw [inV_of rx rs]
        exact q
      · split at h
        · split at h
          · rename_i hsh
            cases h
            exact .inr (.inr (.inl ⟨_, _, frz_dp hs _ rx ‹_›, frz_dp hs _ ry ‹_›, hsh.1, hsh.2, q⟩))
          · cases h
        · split at h
          · rename_i hsh
            cases h
            exact .inr (.inr (.inr ⟨_, _, frz_dp hs _ rx ‹_›, frz_dp hs _ ry ‹_›, hsh.1, hsh.2, q⟩))
          · cases h
        · cases h
    · cases h
theorem od_in (hu : X.A.units + 65 < cLine) : OpD X T (compareOp .In) oIn := by
  refine ⟨_, op_in_sign.or (op_in_seq.or ((op_inD hu).or (op_inTD hu))), fun W σ μ S H x y d e Q hs rx ry h => ?_⟩
  unfold oIn at h
  split at h
  · exact inD_to (σ := σ) hs rx ry ‹_› false (wR.here hs h (.bl _))
  · exact h.elim
theorem od_notIn (hu : X.A.units + 65 < cLine) : OpD X T (compareOp .NotIn) oNotIn := by
  refine ⟨_, op_notIn_sign.or (op_notIn_seq.or ((op_notInD hu).or (op_notInTD hu))), fun W σ μ S H x y d e Q hs rx ry h => ?_⟩
  unfold oNotIn at h
  split at h
  · exact inD_to (σ := σ) hs rx ry ‹_› true (wR.here hs h (.bl _))
  · exact h.elim

/-! ### items by place, slices -/
def oIx : Op := fun d e S => match d, e with
  | .str z, .int i => if z.length ≤ big then (match atI z.cps.toList i with
    | some c => .ok (.str ⟨#[c]⟩) S
    | none => .bad) else .bad
  | d, .int i => match items S d with
    | some ds => (match atI ds i with
      | some x => .ok x S
      | none => .bad)
    | none => .bad
  | _, _ => .bad
theorem atI_of {K : PySem.W.Frag} {μ : List Addr} {H : Hp} {vs : List V} {ds : List D} {i : Int} {d : D} (r : RVs K μ H vs ds) (e : atI ds i = some d) : ∃ v, atI vs i = some v ∧ RV K μ H v d := by
  unfold atI at e ⊢
  rw [r.length]
  obtain ⟨j, e1, e2⟩ := Option.bind_eq_some_iff.mp e
  obtain ⟨v, h1, h2⟩ := r.get e2
  exact ⟨v, by rw [e1]; exact h1, h2⟩
theorem pd_ix {a b : Expr} {da db : Den} {pos : Pos} (ha : PE X a (tD (gx X T) W da)) (hb : PE X b (tD (gx X T) W db)) (hp : PlainIx b := by exact fun _ _ => rfl) : PE X (.Subscript a b pos) (tD (gx X T) W (dBin oIx da db)) := by
  refine (pe_ix (ix_str.or (ix_list.or ix_tup)) ha hb hp).imp (bin_to fun W σ μ S H x y d e Q hs rx ry h => ?_)
  unfold oIx at h
  split at h
  · split at h
    · split at h
      · cases rx
        cases ry
        exact .inl ⟨_, _, _, rfl, rfl, big_ok ‹_›, ‹_›, wR.here hs h (.str _)⟩
      · exact h.elim
    · exact h.elim
  · split at h
    · split at h
      · cases ry
        obtain ⟨p, xs, ev, hq, rs⟩ := items_of hs rx ‹_›
        obtain ⟨v, h1, h2⟩ := atI_of rs ‹_›
        subst ev
        rcases hq with hq | hq
        · exact .inr (.inl ⟨_, _, _, _, rfl, rfl, hq, h1, wR.here hs h h2⟩)
        · exact .inr (.inr ⟨_, _, _, _, rfl, rfl, hq, h1, wR.here hs h h2⟩)
      · exact h.elim
    · exact h.elim
  · exact h.elim
def cutD (xs : List D) (lo hi : Option Int) : List D := (xs.drop (HT.sIx xs.length 0 lo)).take (HT.sIx xs.length xs.length hi - HT.sIx xs.length 0 lo)
theorem cut_of {K : PySem.W.Frag} {μ : List Addr} {H : Hp} {vs : List V} {ds : List D} (r : RVs K μ H vs ds) (lo hi : Option Int) : RVs K μ H (cutV vs lo hi) (cutD ds lo hi) := by
  unfold cutV cutD
  rw [r.length]
  exact (r.drop _).take _
def oSl (d : D) (lo hi : Option Int) (S : Sto) : R D := match d with
  | .str z => if z.length ≤ big then .ok (.str (cutS z lo hi)) S else .bad
  | .tup ds => .ok (.tup (cutD ds lo hi)) S
  | .seq ds => if ds.length ≤ big then .ok (.ref S.length) (S ++ [.lst (cutD ds lo hi)]) else .bad
  | .ref n => match S[n]? with
    | some (.lst ds) => if ds.length ≤ big then .ok (.ref S.length) (S ++ [.lst (cutD ds lo hi)]) else .bad
    | _ => .bad
  | _ => .bad
def dNoPart : DenO := fun _ S => .ok none S
def dPart (a : Den) : DenO := fun ε S => (a ε S).bind fun d S => match d with
  | .int i => .ok (some i) S
  | _ => .bad
theorem _root_.L2.PO.imp {X : Cx} {e : Option Expr} {t t' : TO} (h : PO X e t) (q : ∀ σ H Q, t' σ H Q → t σ H Q) : PO X e t' := ⟨fun pins s σ H Q I z => h.run pins s σ H Q I (q _ _ _ z)⟩
theorem pod_none : PO X none (tDO (gx X T) W dNoPart) := po_none.imp fun _ _ _ ⟨_, _, _, _, hs, h⟩ => wR.here hs h rfl
theorem pod_some {e : Expr} {a : Den} (ha : PE X e (tD (gx X T) W a)) : PO X (some e) (tDO (gx X T) W (dPart a)) :=
  (po_some ha).imp fun σ H Q ⟨ε, μ, S, sr, hs, h⟩ => ⟨ε, μ, S, sr, hs, (wR.bind (Rl := rlV (gx X T)) sr h).imp fun v H1 ⟨d, μ1, S1, g1, hs1, sr1, r1, h1⟩ => by
    have r1 : RV X.K μ1 H1 v d := r1
    cases r1 with
    | int i => exact ⟨i, rfl, wR.here hs1 h1 rfl⟩
    | _ => exact h1.elim⟩
def dSl (a : Den) (lo hi : DenO) : Den := fun ε S => (a ε S).bind fun d S => (lo ε S).bind fun l S => (hi ε S).bind fun u S => oSl d l u S
theorem cutV_whole {vs : List V} {lo hi : Option Int} (h : HT.sIx vs.length 0 lo = 0 ∧ HT.sIx vs.length vs.length hi = vs.length) : cutV vs lo hi = vs := by
  unfold cutV
  rw [h.1, h.2]
  simp
theorem cutD_whole {vs : List D} {lo hi : Option Int} (h : HT.sIx vs.length 0 lo = 0 ∧ HT.sIx vs.length vs.length hi = vs.length) : cutD vs lo hi = vs := by
  unfold cutD
  rw [h.1, h.2]
  simp
theorem pd_sl {e : Expr} {lo hi : Option Expr} {a : Den} {dl dh : DenO} {pos p2 : Pos} (ha : PE X e (tD (gx X T) W a)) (hl : PO X lo (tDO (gx X T) W dl)) (hh : PO X hi (tDO (gx X T) W dh)) : PE X (.Subscript e (.Slice lo hi none p2) pos) (tD (gx X T) W (dSl a dl dh)) :=
  (pe_slice (sl_str.or (sl_list.or sl_tupA)) ha hl hh).imp fun σ H Q ⟨ε, μ, S, sr, hs, h⟩ => ⟨ε, μ, S, sr, hs, (wR.bind (Rl := rlV (gx X T)) sr h).imp fun v H1 ⟨d, μ1, S1, g1, hs1, sr1, r1, h1⟩ =>
    ⟨ε, μ1, S1, sr1, hs1, (wR.bind (Rl := rlO) sr1 h1).imp fun l H2 ⟨l', μ2, S2, g2, hs2, sr2, r2, h2⟩ =>
      ⟨ε, μ2, S2, sr2, hs2, (wR.bind (Rl := rlO) sr2 h2).imp fun u H3 ⟨u', μ3, S3, g3, hs3, sr3, r3, h3⟩ => by
        have e1 : l = l' := r2
        have e2 : u = u' := r3
        subst e1 e2
        have rx : RV X.K μ3 H3 v d := RV.mono (g2.trans g3) r1
        unfold oSl at h3
        split at h3
        · split at h3
          · cases rx
            exact .inl ⟨_, rfl, big_ok ‹_›, wR.here hs3 h3 (.str _)⟩
          · exact h3.elim
        · cases rx with
          | tup t rs =>
            refine .inr (.inr ⟨_, _, rfl, t.sq, fun z => ?_, fun _ p hp => ?_⟩)
            · rw [rs.length] at z
              rw [cutD_whole z] at h3
              exact wR.here hs3 h3 (.tup t rs)
            · exact h3 _ _ _ (Gr.new hp) (hs3.beside hp) (.tup ⟨hs3.fresh hp, upd_same⟩ ((cut_of rs _ _).mono (Gr.new hp)))
        · split at h3
          · cases rx with
            | seq t rs =>
              exact .inr (.inl ⟨_, _, rfl, t.sq, fun p hp => h3 _ _ _ (Gr.obj hp) (hs3.grow hp ⟨_, upd_same, (cut_of rs _ _).mono (Gr.obj hp)⟩) (.ref hs3.last)⟩)
          · exact h3.elim
        · split at h3
          · split at h3
            · obtain ⟨p, xs, rfl, ea, hp', rs⟩ := hs3.lst rx ‹_›
              exact .inr (.inl ⟨_, _, rfl, .inl (.inl hp'), fun p hp => h3 _ _ _ (Gr.obj hp) (hs3.grow hp ⟨_, upd_same, (cut_of rs _ _).mono (Gr.obj hp)⟩) (.ref hs3.last)⟩)
            · exact h3.elim
          · exact h3.elim
        · exact h3.elim⟩⟩⟩

/-! ### and, or, not, if .. else, chains -/
def bAnd (a b : DenB) : DenB := fun ε S => (a ε S).bind fun c S => if c = true then b ε S else .ok false S
def bOr (a b : DenB) : DenB := fun ε S => (a ε S).bind fun c S => if c = true then .ok true S else b ε S
def bNot (a : DenB) : DenB := fun ε S => (a ε S).bind fun c S => .ok (!c) S
section
variable {a b c : Expr} {rest : List Expr} {da db dc : Den} {ba bb : DenB} {pos : Pos}
theorem pwd_and1 (ha : PT X a (tDB (gx X T) W ba)) : PW X (.BoolOp .And [a] pos) (tDB (gx X T) W ba) := pw_and1 ha
theorem pwd_or1 (ha : PT X a (tDB (gx X T) W ba)) : PW X (.BoolOp .Or [a] pos) (tDB (gx X T) W ba) := pw_or1 ha
theorem pwd_and (ha : PT X a (tDB (gx X T) W ba)) (hb : PW X (.BoolOp .And (b :: rest) pos) (tDB (gx X T) W bb)) : PW X (.BoolOp .And (a :: b :: rest) pos) (tDB (gx X T) W (bAnd ba bb)) :=
  (pw_and ha hb).imp fun σ H Q ⟨ε, μ, S, sr, hs, h⟩ => ⟨ε, μ, S, sr, hs, (wR.bind (Rl := rlB) sr h).imp fun v H1 ⟨d, μ1, S1, g1, hs1, sr1, r1, h1⟩ => by
    have r1 : v = d := r1
    subst r1
    cases v with
    | true => exact ⟨ε, μ1, S1, sr1, hs1, h1⟩
    | false => exact wR.here hs1 h1 rfl⟩
theorem pwd_or (ha : PT X a (tDB (gx X T) W ba)) (hb : PW X (.BoolOp .Or (b :: rest) pos) (tDB (gx X T) W bb)) : PW X (.BoolOp .Or (a :: b :: rest) pos) (tDB (gx X T) W (bOr ba bb)) :=
  (pw_or ha hb).imp fun σ H Q ⟨ε, μ, S, sr, hs, h⟩ => ⟨ε, μ, S, sr, hs, (wR.bind (Rl := rlB) sr h).imp fun v H1 ⟨d, μ1, S1, g1, hs1, sr1, r1, h1⟩ => by
    have r1 : v = d := r1
    subst r1
    cases v with
    | true => exact wR.here hs1 h1 rfl
    | false => exact ⟨ε, μ1, S1, sr1, hs1, h1⟩⟩
theorem ptd_not (ha : PT X a (tDB (gx X T) W ba)) : PT X (.UnaryOp .Not a pos) (tDB (gx X T) W (bNot ba)) :=
  (pt_not ha).imp fun σ H Q ⟨ε, μ, S, sr, hs, h⟩ => ⟨ε, μ, S, sr, hs, (wR.bind (Rl := rlB) sr h).imp fun v H1 ⟨d, μ1, S1, g1, hs1, sr1, r1, h1⟩ => by
    have r1 : v = d := r1
    subst r1
    exact wR.here hs1 h1 rfl⟩
def dAndV (a b : Den) : Den := fun ε S => (a ε S).bind fun c S => match c with
  | .bl true => b ε S
  | .bl false => .ok (.bl false) S
  | _ => .bad
def dOrV (a b : Den) : Den := fun ε S => (a ε S).bind fun c S => match c with
  | .bl true => .ok (.bl true) S
  | .bl false => b ε S
  | _ => .bad
def dNotV (a : Den) : Den := fun ε S => (a ε S).bind fun c S => match c with
  | .bl b => .ok (.bl !b) S
  | _ => .bad
theorem pd_one {op : BoolOp} (ha : PE X a (tD (gx X T) W da)) : PE X (.BoolOp op [a] pos) (tD (gx X T) W da) := pe_one ha
theorem pd_and (ha : PE X a (tD (gx X T) W da)) (hb : PE X (.BoolOp .And (b :: rest) pos) (tD (gx X T) W db)) : PE X (.BoolOp .And (a :: b :: rest) pos) (tD (gx X T) W (dAndV da db)) :=
  (pe_and ha hb).imp fun σ H Q ⟨ε, μ, S, sr, hs, h⟩ => ⟨ε, μ, S, sr, hs, (wR.bind (Rl := rlV (gx X T)) sr h).imp fun v H1 ⟨d, μ1, S1, g1, hs1, sr1, r1, h1⟩ => by
    have r1 : RV X.K μ1 H1 v d := r1
    cases r1 with
    | bl k =>
      refine ⟨k, rfl, ?_⟩
      cases k with
      | true => exact ⟨ε, μ1, S1, sr1, hs1, h1⟩
      | false => exact wR.here hs1 h1 (.bl _)
    | _ => exact h1.elim⟩
theorem pd_or (ha : PE X a (tD (gx X T) W da)) (hb : PE X (.BoolOp .Or (b :: rest) pos) (tD (gx X T) W db)) : PE X (.BoolOp .Or (a :: b :: rest) pos) (tD (gx X T) W (dOrV da db)) :=
  (pe_or ha hb).imp fun σ H Q ⟨ε, μ, S, sr, hs, h⟩ => ⟨ε, μ, S, sr, hs, (wR.bind (Rl := rlV (gx X T)) sr h).imp fun v H1 ⟨d, μ1, S1, g1, hs1, sr1, r1, h1⟩ => by
    have r1 : RV X.K μ1 H1 v d := r1
    cases r1 with
    | bl k =>
      refine ⟨k, rfl, ?_⟩
      cases k with
      | true => exact wR.here hs1 h1 (.bl _)
      | false => exact ⟨ε, μ1, S1, sr1, hs1, h1⟩
    | _ => exact h1.elim⟩
theorem pd_not (ha : PE X a (tD (gx X T) W da)) : PE X (.UnaryOp .Not a pos) (tD (gx X T) W (dNotV da)) :=
  (pe_not ha).imp fun σ H Q ⟨ε, μ, S, sr, hs, h⟩ => ⟨ε, μ, S, sr, hs, (wR.bind (Rl := rlV (gx X T)) sr h).imp fun v H1 ⟨d, μ1, S1, g1, hs1, sr1, r1, h1⟩ => by
    have r1 : RV X.K μ1 H1 v d := r1
    cases r1 with
    | bl k => exact ⟨k, rfl, wR.here hs1 h1 (.bl _)⟩
    | _ => exact h1.elim⟩
def dIf (c : DenB) (a b : Den) : Den := fun ε S => (c ε S).bind fun k S => if k = true then a ε S else b ε S
theorem pd_if (hc : PT X c (tDB (gx X T) W ba)) (ha : PE X a (tD (gx X T) W da)) (hb : PE X b (tD (gx X T) W db)) : PE X (.IfExp c a b pos) (tD (gx X T) W (dIf ba da db)) :=
  (pe_ifExp hc ha hb).imp fun σ H Q ⟨ε, μ, S, sr, hs, h⟩ => ⟨ε, μ, S, sr, hs, (wR.bind (Rl := rlB) sr h).imp fun v H1 ⟨d, μ1, S1, g1, hs1, sr1, r1, h1⟩ => by
    have r1 : v = d := r1
    subst r1
    cases v with
    | true => exact ⟨ε, μ1, S1, sr1, hs1, h1⟩
    | false => exact ⟨ε, μ1, S1, sr1, hs1, h1⟩⟩
/-- a op b op' c -/
def dChain (o o' : Op) (a b c : Den) : Den := fun ε S => (a ε S).bind fun x S => (b ε S).bind fun y S => (o x y S).bind fun k S => match k with
  | .bl true => (c ε S).bind fun z S => o' y z S
  | .bl false => .ok (.bl false) S
  | _ => .bad
theorem chain_to {o o' : Op} {r r' : R2} (ho : ∀ (W : WX) σ μ S H x y d e Q, HS (gx X T) μ S H → RV X.K μ H x d → RV X.K μ H y e → wR (gx X T) W (rlV (gx X T)) (o d e S) σ μ H Q → r x y H Q)
    (ho' : ∀ (W : WX) σ μ S H x y d e Q, HS (gx X T) μ S H → RV X.K μ H x d → RV X.K μ H y e → wR (gx X T) W (rlV (gx X T)) (o' d e S) σ μ H Q → r' x y H Q) :
    ∀ σ H Q, tD (gx X T) W (dChain o o' da db dc) σ H Q → tChain r r' (tD (gx X T) W da) (tD (gx X T) W db) (tD (gx X T) W dc) σ H Q := fun σ H Q ⟨ε, μ, S, sr, hs, h⟩ =>
  ⟨ε, μ, S, sr, hs, (wR.bind (Rl := rlV (gx X T)) sr h).imp fun v H1 ⟨d, μ1, S1, g1, hs1, sr1, r1, h1⟩ =>
    ⟨ε, μ1, S1, sr1, hs1, (wR.bind (Rl := rlV (gx X T)) sr1 h1).imp fun w H2 ⟨e, μ2, S2, g2, hs2, sr2, r2, h2⟩ =>
      ho W σ μ2 S2 H2 v w d e _ hs2 (RV.mono g2 r1) r2 ((wR.bind (Rl := rlV (gx X T)) sr2 h2).imp fun z H3 ⟨k, μ3, S3, g3, hs3, sr3, r3, h3⟩ => by
        have r3 : RV X.K μ3 H3 z k := r3
        cases r3 with
        | bl k =>
          refine ⟨k, rfl, ?_⟩
          cases k with
          | true => exact ⟨ε, μ3, S3, sr3, hs3, (wR.bind (Rl := rlV (gx X T)) sr3 h3).imp fun u H4 ⟨f, μ4, S4, g4, hs4, sr4, r4, h4⟩ => ho' W σ μ4 S4 H4 w u e f _ hs4 (RV.mono (g3.trans g4) r2) r4 h4⟩
          | false => exact wR.here hs3 h3 (.bl _)
        | _ => exact h3.elim)⟩⟩
theorem pd_chain {op op' : CmpOp} {o o' : Op} (ho : OpD X T (compareOp op) o) (ho' : OpD X T (compareOp op') o') (ha : PE X a (tD (gx X T) W da)) (hb : PE X b (tD (gx X T) W db)) (hc : PE X c (tD (gx X T) W dc))
    (hm : lastMarks [op, op'] [b, c] = false := by with_unfolding_all rfl) : PE X (.Compare a [op, op'] [b, c] pos) (tD (gx X T) W (dChain o o' da db dc)) := by
  obtain ⟨r, hr, q⟩ := ho
  obtain ⟨r', hr', q'⟩ := ho'
  exact (pe_chain hr hr' ha hb hc hm).imp (chain_to q q')
theorem ptd_chain {op op' : CmpOp} {o o' : Op} (ho : OpD X T (compareOp op) o) (ho' : OpD X T (compareOp op') o') (ha : PE X a (tD (gx X T) W da)) (hb : PE X b (tD (gx X T) W db)) (hc : PE X c (tD (gx X T) W dc))
    (hm : lastMarks [op, op'] [b, c] = false := by with_unfolding_all rfl) : PT X (.Compare a [op, op'] [b, c] pos) (tDB (gx X T) W (dTest (dChain o o' da db dc))) := by
  obtain ⟨r, hr, q⟩ := ho
  obtain ⟨r', hr', q'⟩ := ho'
  exact (pt_chain hr hr' ha hb hc hm).imp (test_to (chain_to q q'))
end
end
end DL

set_option Elab.async false
set_option linter.all false
set_option maxRecDepth 100000
set_option maxHeartbeats 1000000
namespace DL
open PySem L2
section
variable {X : Cx} {T : Gt} {W : WX}
/-! ### calls of what is built in -/
abbrev Fn := List D → Sto → R D
def CallD (X : Cx) (T : Gt) (f : Value) (o : Fn) : Prop :=
  ∃ r, CallR X f r ∧ ∀ (W : WX) σ μ S H vs ds Q, HS (gx X T) μ S H → RVs X.K μ H vs ds → wR (gx X T) W (rlV (gx X T)) (o ds S) σ μ H Q → r vs H Q
def dFn (o : Fn) (a : DenA) : Den := fun ε S => (a ε S).bind fun ds S => o ds S
theorem fn_to {o : Fn} {r : List V → Hp → VK → Prop} {a : DenA} (ho : ∀ (W : WX) σ μ S H vs ds Q, HS (gx X T) μ S H → RVs X.K μ H vs ds → wR (gx X T) W (rlV (gx X T)) (o ds S) σ μ H Q → r vs H Q) :
    ∀ σ H Q, tD (gx X T) W (dFn o a) σ H Q → tCB r (tDA (gx X T) W a) σ H Q := fun σ H Q ⟨ε, μ, S, sr, hs, h⟩ =>
  ⟨ε, μ, S, sr, hs, (wR.bind (Rl := rlA (gx X T)) sr h).imp fun v H1 ⟨d, μ1, S1, g1, hs1, sr1, r1, h1⟩ => ho W σ μ1 S1 H1 v d Q hs1 r1 h1⟩
theorem pd_callB {x : Str} {p pos : Pos} {e : Expr} {es : List Expr} {a : DenA} {id : String} {o : Fn} (ho : CallD X T (.builtin id) o) (hg : Gl X x) (hm : X.mg x = none) (hb : bootBuiltins x = some (.builtin id)) (ha : PA X (e :: es) (tDA (gx X T) W a))
    (hn : x ≠ "__name__" := by decide) (hd : (x == ("__debug__" : Str)) = false := by decide) (he : starEach (e :: es) X.env = (false, eval e X.env) :: starEach es X.env := by rfl) (hpl : (backTo pos (starEach es X.env)).any (·.1) = false := by rfl) :
    PE X (.Call (.Name x p) (e :: es) [] pos) (tD (gx X T) W (dFn o a)) := by
  obtain ⟨r, hr, q⟩ := ho
  exact (pe_callB hr hg hm hb ha hn hd he hpl).imp (fn_to q)
theorem pd_callTy {x : Str} {p pos : Pos} {e : Expr} {es : List Expr} {a : DenA} {id : String} {o : Fn} (ho : CallD X T (.type id) o) (hg : Gl X x) (hm : X.mg x = none) (hb : bootBuiltins x = some (.type id)) (ha : PA X (e :: es) (tDA (gx X T) W a))
    (hn : x ≠ "__name__" := by decide) (hd : (x == ("__debug__" : Str)) = false := by decide) (he : starEach (e :: es) X.env = (false, eval e X.env) :: starEach es X.env := by rfl) (hpl : (backTo pos (starEach es X.env)).any (·.1) = false := by rfl) :
    PE X (.Call (.Name x p) (e :: es) [] pos) (tD (gx X T) W (dFn o a)) := by
  obtain ⟨r, hr, q⟩ := ho
  exact (pe_callTy hr hg hm hb ha hn hd he hpl).imp (fn_to q)
/-- one argument -/
theorem one_of {K : PySem.W.Frag} {μ : List Addr} {H : Hp} {vs : List V} {d : D} (r : RVs K μ H vs [d]) : ∃ v, vs = [v] ∧ RV K μ H v d := by
  cases r with
  | cons h t => cases t; exact ⟨_, rfl, h⟩
theorem two_of {K : PySem.W.Frag} {μ : List Addr} {H : Hp} {vs : List V} {d e : D} (r : RVs K μ H vs [d, e]) : ∃ v w, vs = [v, w] ∧ RV K μ H v d ∧ RV K μ H w e := by
  cases r with
  | cons h t =>
    obtain ⟨w, rfl, r⟩ := one_of t
    exact ⟨_, _, rfl, h, r⟩
def fLen : Fn := fun ds S => match ds with
  | [.str z] => if z.length ≤ big then .ok (.int z.length) S else .bad
  | [d] => (match items S d with
    | some xs => .ok (.int xs.length) S
    | none => .bad)
  | _ => .bad
theorem cd_len : CallD X T (.builtin "len") fLen := by
  refine ⟨_, call_len, fun W σ μ S H vs ds Q hs r h => ?_⟩
  unfold fLen at h
  split at h
  · split at h
    · obtain ⟨v, rfl, r1⟩ := one_of r
      cases r1
      exact ⟨.str _, _, rfl, ⟨big_ok ‹_›, rfl⟩, wR.here hs h (.int _)⟩
    · exact h.elim
  · split at h
    · obtain ⟨v, rfl, r1⟩ := one_of r
      obtain ⟨a, xs, rfl, hq, rs⟩ := items_of hs r1 ‹_›
      refine ⟨.ref a, xs.length, rfl, ?_, ?_⟩
      · rcases hq with hq | hq
        · exact .inl ⟨_, hq, rfl⟩
        · exact .inr ⟨_, hq, rfl⟩
      · rw [rs.length]
        exact wR.here hs h (.int _)
    · exact h.elim
  · exact h.elim
def fInt : Fn := fun ds S => match ds with
  | [.int i] => .ok (.int i) S
  | [.bl b] => .ok (.int (if b then 1 else 0)) S
  | _ => .bad
theorem cd_int : CallD X T (.type "int") fInt := by
  refine ⟨_, call_int1, fun W σ μ S H vs ds Q hs r h => ?_⟩
  unfold fInt at h
  split at h
  · obtain ⟨v, rfl, r1⟩ := one_of r
    cases r1
    exact .inl ⟨_, rfl, wR.here hs h (.int _)⟩
  · obtain ⟨v, rfl, r1⟩ := one_of r
    cases r1
    exact .inr ⟨_, rfl, wR.here hs h (.int _)⟩
  · exact h.elim
def fStrI : Fn := fun ds S => match ds with
  | [.int i] => if i.natAbs.log2 < 1920 then .ok (.str (toString i)) S else .bad
  | _ => .bad
theorem cd_strI : CallD X T (.type "str") fStrI := by
  refine ⟨_, call_str_int, fun W σ μ S H vs ds Q hs r h => ?_⟩
  unfold fStrI at h
  split at h
  · split at h
    · obtain ⟨v, rfl, r1⟩ := one_of r
      cases r1
      exact ⟨_, rfl, ‹_›, wR.here hs h (.str _)⟩
    · exact h.elim
  · exact h.elim
def fList : Fn := fun ds S => match ds with
  | [d] => (match items S d with
    | some xs => .ok (.ref S.length) (S ++ [.lst xs])
    | none => .bad)
  | _ => .bad
theorem cd_list : CallD X T (.type "list") fList := by
  refine ⟨_, call_list_of, fun W σ μ S H vs ds Q hs r h => ?_⟩
  unfold fList at h
  split at h
  · split at h
    · obtain ⟨v, rfl, r1⟩ := one_of r
      obtain ⟨a, xs, rfl, hq, rs⟩ := items_of hs r1 ‹_›
      exact ⟨_, _, rfl, hq, fun p hp => h _ _ _ (Gr.obj hp) (hs.grow hp ⟨_, upd_same, rs.mono (Gr.obj hp)⟩) (.ref hs.last)⟩
    · exact h.elim
  · exact h.elim
def fTuple : Fn := fun ds S => match ds with
  | [d] => (match items S d with
    | some xs => .ok (.tup xs) S
    | none => .bad)
  | _ => .bad
theorem cd_tuple : CallD X T (.type "tuple") fTuple := by
  refine ⟨_, call_tuple_of, fun W σ μ S H vs ds Q hs r h => ?_⟩
  unfold fTuple at h
  split at h
  · split at h
    · rename_i d xs0 he
      obtain ⟨v, rfl, r1⟩ := one_of r
      cases r1 with
      | tup t rs =>
        cases he
        exact ⟨_, _, rfl, .inr ⟨t.sq, wR.here hs h (.tup t rs)⟩⟩
      | seq t rs =>
        cases he
        exact ⟨_, _, rfl, .inl ⟨t.sq, fun p hp => h _ _ _ (Gr.new hp) (hs.beside hp) (.tup ⟨hs.fresh hp, upd_same⟩ (rs.mono (Gr.new hp)))⟩⟩
      | ref q =>
        simp only [items] at he
        split at he
        · cases he
          obtain ⟨a, xs, ev, ea, ha, ra⟩ := hs.lst (RV.ref q) ‹_›
          cases ev
          exact ⟨_, _, rfl, .inl ⟨.inl (.inl ha), fun p hp => h _ _ _ (Gr.new hp) (hs.beside hp) (.tup ⟨hs.fresh hp, upd_same⟩ (ra.mono (Gr.new hp)))⟩⟩
        · cases he
      | _ => cases he
    · exact h.elim
  · exact h.elim
/-- the items of a list, no tuple's -/
def litems (S : Sto) : D → Option (List D)
  | .seq ds => some ds
  | .ref n => match S[n]? with
    | some (.lst ds) => some ds
    | _ => none
  | _ => none
theorem litems_of {G : Gc} {μ : List Addr} {S : Sto} {H : Hp} (hs : HS G μ S H) {v : V} {d : D} {ds : List D} (r : RV G.K μ H v d) (e : litems S d = some ds) : ∃ a xs, v = .ref a ∧ SqL G.K H a xs ∧ RVs G.K μ H xs ds := by
  cases r with
  | seq t rs => cases e; exact ⟨_, _, rfl, t.sq, rs⟩
  | ref q =>
    simp only [litems] at e
    split at e
    · cases e
      obtain ⟨a, xs, ev, ea, ha, ra⟩ := hs.lst (RV.ref q) ‹_›
      exact ⟨a, xs, ev, .inl (.inl ha), ra⟩
    · cases e
  | _ => cases e
def intD : D → Option Int
  | .int i => some i
  | _ => none
def blD : D → Option Bool
  | .bl i => some i
  | _ => none
def strD : D → Option Str
  | .str i => some i
  | _ => none
theorem fall_ints {ds : List D} {ns : List Int} (h : fall intD ds = some ns) : ds = ns.map D.int := by
  induction ds generalizing ns with
  | nil => cases h; rfl
  | cons d ds ih =>
    unfold fall at h
    split at h
    · cases h
      rename_i b s h1 h2
      rw [ih h2]
      cases d <;> cases h1
      rfl
    · cases h
theorem fall_bls {ds : List D} {ns : List Bool} (h : fall blD ds = some ns) : ds = ns.map D.bl := by
  induction ds generalizing ns with
  | nil => cases h; rfl
  | cons d ds ih =>
    unfold fall at h
    split at h
    · cases h
      rename_i b s h1 h2
      rw [ih h2]
      cases d <;> cases h1
      rfl
    · cases h
theorem fall_strs {ds : List D} {ns : List Str} (h : fall strD ds = some ns) : ds = ns.map D.str := by
  induction ds generalizing ns with
  | nil => cases h; rfl
  | cons d ds ih =>
    unfold fall at h
    split at h
    · cases h
      rename_i b s h1 h2
      rw [ih h2]
      cases d <;> cases h1
      rfl
    · cases h
/-- of one list -/
def fLst (f : List D → Sto → R D) : Fn := fun ds S => match ds with
  | [d] => (match litems S d with
    | some xs => f xs S
    | none => .bad)
  | _ => .bad
def fSum : Fn := fLst fun xs S => match fall intD xs with
  | some ns => .ok (.int ns.sum) S
  | none => .bad
theorem cd_sum (hc : X.calm = true) : CallD X T (.builtin "sum") fSum := by
  refine ⟨_, cr_sum hc, fun W σ μ S H vs ds Q hs r h => ?_⟩
  unfold fSum fLst at h
  split at h
  · split at h
    · dsimp only at h
      split at h
      · rename_i he _ ns hn
        obtain ⟨v, rfl, r1⟩ := one_of r
        obtain ⟨a, xs, rfl, hq, rs⟩ := litems_of hs r1 he
        rw [fall_ints hn] at rs
        rw [rs.ints] at hq
        exact ⟨_, _, rfl, hq, wR.here hs h (.int _)⟩
      · exact h.elim
    · exact h.elim
  · exact h.elim
def fAll : Fn := fLst fun xs S => match fall blD xs with
  | some ns => .ok (.bl (ns.all id)) S
  | none => .bad
theorem cd_all (hc : X.calm = true) : CallD X T (.builtin "all") fAll := by
  refine ⟨_, cr_all hc, fun W σ μ S H vs ds Q hs r h => ?_⟩
  unfold fAll fLst at h
  split at h
  · split at h
    · dsimp only at h
      split at h
      · rename_i he _ ns hn
        obtain ⟨v, rfl, r1⟩ := one_of r
        obtain ⟨a, xs, rfl, hq, rs⟩ := litems_of hs r1 he
        rw [fall_bls hn] at rs
        rw [rs.bls] at hq
        exact ⟨_, _, rfl, hq, wR.here hs h (.bl _)⟩
      · exact h.elim
    · exact h.elim
  · exact h.elim
def fAny : Fn := fLst fun xs S => match fall blD xs with
  | some ns => .ok (.bl (ns.any id)) S
  | none => .bad
theorem cd_any (hc : X.calm = true) : CallD X T (.builtin "any") fAny := by
  refine ⟨_, cr_any hc, fun W σ μ S H vs ds Q hs r h => ?_⟩
  unfold fAny fLst at h
  split at h
  · split at h
    · dsimp only at h
      split at h
      · rename_i he _ ns hn
        obtain ⟨v, rfl, r1⟩ := one_of r
        obtain ⟨a, xs, rfl, hq, rs⟩ := litems_of hs r1 he
        rw [fall_bls hn] at rs
        rw [rs.bls] at hq
        exact ⟨_, _, rfl, hq, wR.here hs h (.bl _)⟩
      · exact h.elim
    · exact h.elim
  · exact h.elim
def fMax2 : Fn := fun ds S => match ds with
  | [.int i, .int j] => .ok (.int (if j > i then j else i)) S
  | _ => .bad
theorem cd_max2 (hc : X.calm = true) : CallD X T (.builtin "max") fMax2 := by
  refine ⟨_, call_max2 hc, fun W σ μ S H vs ds Q hs r h => ?_⟩
  unfold fMax2 at h
  split at h
  · obtain ⟨v, w, rfl, r1, r2⟩ := two_of r
    cases r1
    cases r2
    exact ⟨_, _, rfl, wR.here hs h (.int _)⟩
  · exact h.elim
def fMin2 : Fn := fun ds S => match ds with
  | [.int i, .int j] => .ok (.int (if j < i then j else i)) S
  | _ => .bad
theorem cd_min2 (hc : X.calm = true) : CallD X T (.builtin "min") fMin2 := by
  refine ⟨_, call_min2 hc, fun W σ μ S H vs ds Q hs r h => ?_⟩
  unfold fMin2 at h
  split at h
  · obtain ⟨v, w, rfl, r1, r2⟩ := two_of r
    cases r1
    cases r2
    exact ⟨_, _, rfl, wR.here hs h (.int _)⟩
  · exact h.elim

/-! ### isinstance -/
def tyD (S : Sto) : D → Option String
  | .non => some "NoneType"
  | .bl _ => some "bool"
  | .int _ => some "int"
  | .str _ => some "str"
  | .tup _ => some "tuple"
  | .seq _ => some "list"
  | .ref n => match S[n]? with
    | some (.lst _) => some "list"
    | some (.dct _) => some "dict"
    | _ => none
theorem ty_of {G : Gc} {μ : List Addr} {S : Sto} {H : Hp} (hs : HS G μ S H) {v : V} {d : D} {t : String} (r : RV G.K μ H v d) (e : tyD S d = some t) : TyX G.K H v (.type t) := by
  cases r with
  | non => cases e; exact .base .non
  | bl b => cases e; exact .base (.bl b)
  | int i => cases e; exact .base (.int i)
  | str x => cases e; exact .base (.str x)
  | tup t rs => cases e; exact .base (.tup t.2)
  | seq t rs =>
    cases e
    rcases t with ⟨_, o, t⟩ | ⟨o, its, n, h1, h2, _⟩
    · exact .base (.frz t)
    · exact .kList h1 h2
  | ref q =>
    simp only [tyD] at e
    split at e
    · cases e
      obtain ⟨a, xs, ev, ea, ha, ra⟩ := hs.lst (RV.ref q) ‹_›
      cases ev
      exact .base (.lst ha)
    · cases e
      obtain ⟨a, xs, ev, ea, ha, ra⟩ := hs.dct (RV.ref q) ‹_›
      cases ev
      exact .base (.dK ha)
    · cases e
def isiD (c : String) (S : Sto) (d : D) : Option Bool := match tyD S d with
  | some t => kitB t c
  | none => none
def dIsi (c : String) (a : Den) : Den := fun ε S => (a ε S).bind fun d S => match isiD c S d with
  | some b => .ok (.bl b) S
  | none => .bad
theorem pd_isi {c : String} {y : Str} {e : Expr} {a : Den} {p p2 pos : Pos} (hg : Gl X "isinstance") (hm : X.mg "isinstance" = none) (hgy : Gl X y) (hmy : X.mg y = none) (hb : bootBuiltins "isinstance" = some (.builtin "isinstance")) (hby : bootBuiltins y = some (.type c))
    (ha : PE X e (tD (gx X T) W a)) (hny : y ≠ "__name__" := by decide) (hdy : (y == ("__debug__" : Str)) = false := by decide)
    (he : starEach [e, .Name y p2] X.env = (false, eval e X.env) :: starEach [.Name y p2] X.env := by rfl) (hpl : (backTo pos (starEach [.Name y p2] X.env)).any (·.1) = false := by rfl) :
    PE X (.Call (.Name "isinstance" p) [e, .Name y p2] [] pos) (tD (gx X T) W (dIsi c a)) := by
  refine (pe_callB call_isi hg hm hb (pa_cons ha (pa_cons (pe_bltn (v := .ty c) (u := .type c) hgy hmy hby rfl hny hdy) pa_nil) he) (by decide) (by decide) he hpl).imp fun σ H Q ⟨ε, μ, S, sr, hs, h⟩ => ?_
  refine ⟨ε, μ, S, sr, hs, (wR.bind (Rl := rlV (gx X T)) sr h).imp fun v H1 ⟨d, μ1, S1, g1, hs1, sr1, r1, h1⟩ => ?_⟩
  split at h1
  · rename_i b hb'
    unfold isiD at hb'
    split at hb'
    · rename_i t ht
      exact ⟨_, _, _, _, b, rfl, .ty c, ty_of hs1 r1 ht, kit_ty hb', wR.here hs1 h1 (.bl _)⟩
    · cases hb'
  · exact h1.elim
end
end DL

set_option Elab.async false
set_option linter.all false
set_option maxRecDepth 100000
set_option maxHeartbeats 1000000
/-! calls: what an exception may be wished at the slots -/
namespace L2
open PySem PySem.Spec PyProof.Rows
section
variable {X : Cx} {CX : CXT} {k : Nat} {f C : Addr} {fd : FuncData} {ps : List Str} {sp : Sp} {E : St → XK} {x m : Str} {p pos apos : Pos} {e o : Expr} {es : List Expr} {ta : TE} {t : TA}
def tMethW (C : Addr) (m : Str) (sp : Sp) (E : St → XK) (ta : TE) (t : TA) : TE := fun σ H Q => ta σ H fun x H1 => ∃ a dx fs, x = .ref a ∧ H1 a = some (.ins C dx fs) ∧ fs.lookup m = none ∧
  t σ H1 fun vs H2 => sp (x :: vs) H2 Q (E σ)
theorem pe_methW {pl : Sem Bool} (he : PE X o ta) (c : Cls X.K C) (hm : Meth X.K C m f) (F : FnOk X.prog X.w X.K X.mg X.base CX k f fd ps sp) (hr : Room k X.A) (hb : Binds X.K fd ps []) (hx : ∀ σ, PassesAt CX X σ (E σ)) (ha : PA X (e :: es) t)
    (hst : starEach (e :: es) X.env = (false, eval e X.env) :: starEach es X.env := by rfl) (hpl : (backTo pos (starEach es X.env)).any (·.1) = false := by rfl)
    (ht : eval (.Call (.Attribute o m apos) (e :: es) [] pos) X.env = (do
      let ov ← eval o X.env
      standAt apos.atName
      let (f, first) ← holding [ov] (getMethod ov m pl)
      callWith pos f first (backTo pos (starEach (e :: es) X.env)) (backToKw pos (keywordEach [] X.env))) := by rfl) :
    PE X (.Call (.Attribute o m apos) (e :: es) [] pos) (tMethW C m sp E ta t) := by
  refine ⟨fun pins s σ H Q I h => ?_⟩
  refine PySem.W.methodCall_KW (pl := pl) (thn (he.run pins s σ H _ I h) fun u s1 ⟨x, H1, I1, rx, a, dx, fs, ex, ea, l, q⟩ => ?_) ht
  subst ex
  obtain rfl : u = Value.ref a := rx
  refine getmeth_ok I1 ea c hm l ?_
  refine PySem.W.callWith_K (first := [.ref a]) (h₀ := X.base) I.ok.mod.kin hm.kp (thn (ha.run pos pins s1 σ H1 _ I1 q) fun us s2 ⟨vs, H2, I2, r, q2⟩ => ⟨I2.kIn, ?_⟩) hst hpl
  exact run_fnS (us := .ref a :: us) (vs := .ref a :: vs) F hr hb (hx σ) I2 (.cons rfl r) q2
def tMethW0 (C : Addr) (m : Str) (sp : Sp) (E : St → XK) (ta : TE) : TE := fun σ H Q => ta σ H fun x H1 => ∃ a dx fs, x = .ref a ∧ H1 a = some (.ins C dx fs) ∧ fs.lookup m = none ∧ sp [x] H1 Q (E σ)
theorem pe_methW0 {pl : Sem Bool} (he : PE X o ta) (c : Cls X.K C) (hm : Meth X.K C m f) (F : FnOk X.prog X.w X.K X.mg X.base CX k f fd ps sp) (hr : Room k X.A) (hb : Binds X.K fd ps []) (hx : ∀ σ, PassesAt CX X σ (E σ))
    (ht : eval (.Call (.Attribute o m apos) [] [] pos) X.env = (do
      let ov ← eval o X.env
      standAt apos.atName
      let (f, first) ← holding [ov] (getMethod ov m pl)
      callWith pos f first (backTo pos (starEach [] X.env)) (backToKw pos (keywordEach [] X.env))) := by rfl) :
    PE X (.Call (.Attribute o m apos) [] [] pos) (tMethW0 C m sp E ta) := by
  refine ⟨fun pins s σ H Q I h => ?_⟩
  refine PySem.W.methodCall_KW (pl := pl) (thn (he.run pins s σ H _ I h) fun u s1 ⟨x, H1, I1, rx, a, dx, fs, ex, ea, l, q⟩ => ?_) ht
  subst ex
  obtain rfl : u = Value.ref a := rx
  refine getmeth_ok I1 ea c hm l ?_
  exact PySem.W.callWith_K0 (first := [.ref a]) I1.kIn hm.kp (run_fnS (us := [.ref a]) (vs := [.ref a]) F hr hb (hx σ) I1 (.cons rfl .nil) q)
theorem pe_call0W (F : FnOk X.prog X.w X.K X.mg X.base CX k f fd ps sp) (hr : Room k X.A) (hg : Gl X x) (hm : X.mg x = some (.ref f)) (hk : PySem.W.keepIn X.K (.ref f) = true) (hb : Binds X.K fd ps []) (hx : ∀ σ, PassesAt CX X σ (E σ))
    (hdb : (x == ("__debug__" : Str)) = false := by decide) : PE X (.Call (.Name x p) [] [] pos) (tCallS sp E tNil) := by
  refine ⟨fun pins s σ H Q I h => ?_⟩
  refine wpAny_Call_Name_kw (ld_glob I hg hm ?_ hdb)
  exact PySem.W.callWith_K0 I.kIn hk (run_fnS (us := []) F hr hb (hx σ) I .nil h)
/-- C(..) -/
def tMakeW (C : Addr) (sp : Sp) (E : St → XK) (t : TA) : TE := fun σ H Q => t σ H fun vs H1 => ∀ x dx, H1 x = none → H1 dx = none → dx ≠ x →
  sp (.ref x :: vs) (upd (upd H1 dx (.own x)) x (.ins C dx [])) (fun v H2 => v = .non ∧ Q (.ref x) H2) (E σ)
theorem run_makeW {pins : List (Addr × Obj)} {σ : St} {H : Hp} {s : Shared} {Q : VK} {us : List Value} {vs : List V} (M : Mk X.K C f) (F : FnOk X.prog X.w X.K X.mg X.base CX k f fd ps sp) (hr : Room (k + 1) X.A) (hb : Binds X.K fd ps [])
    (hx : PassesAt CX X σ (E σ)) (I : Inv X pins σ H s) (r : Vals vs us)
    (h : ∀ x dx, H x = none → H dx = none → dx ≠ x → sp (.ref x :: vs) (upd (upd H dx (.own x)) x (.ins C dx [])) (fun v H2 => v = .non ∧ Q (.ref x) H2) (E σ)) :
    wpAny (model X.prog X.w) X.A (call (.ref C) us) (EP X pins σ Q) X.xe s := by
  have hq := h (s.heap.objs.size + 1) s.heap.objs.size (I.hok.fresh (Nat.le_succ _)) (I.hok.fresh (Nat.le_refl _)) (Nat.ne_of_lt (Nat.lt_succ_self _))
  have I2 := Inv.made (C := C) I
  have r2 : Vals (V.ref (s.heap.objs.size + 1) :: vs) (Value.ref (s.heap.objs.size + 1) :: us) := .cons rfl r
  have hl : (Value.ref (s.heap.objs.size + 1) :: us).length = ps.length := by
    have e := r2.length
    rw [F.len _ _ _ _ hq] at e
    exact e.symm
  have b := hb _ (Value.ref (s.heap.objs.size + 1) :: us) I2.kIn (by rw [List.append_nil]; exact hl)
  rw [List.append_nil] at b
  refine wpAny_call (make_map (f := f) I.kIn M.makes M.init (beq_iff_eq.mp M.fn) (codeAny_mono (F.run _ X.stack _ _ ⟨Value.ref (s.heap.objs.size + 1) :: us, []⟩ (Value.ref (s.heap.objs.size + 1) :: us) _ _ (E σ) (hr.make C us [])
    (I2.env0.make C us []) b r2 hq) fun r s' hq' => ?_))
  cases r with
  | error e => exact hx pins _ _ e s' I2 hq'
  | ok fl =>
    cases fl with
    | ret u =>
      obtain ⟨v, H', I3, rv, ev, q3⟩ := I2.after hq'
      subst ev
      exact ⟨rv, ⟨V.ref (s.heap.objs.size + 1), H', I3, rfl, q3⟩⟩
    | next => exact False.elim hq'
    | brk => exact False.elim hq'
    | cont => exact False.elim hq'
theorem pe_makeW (M : Mk X.K C f) (F : FnOk X.prog X.w X.K X.mg X.base CX k f fd ps sp) (hr : Room (k + 1) X.A) (hg : Gl X x) (hm : X.mg x = some (.ref C)) (hb : Binds X.K fd ps []) (hx : ∀ σ, PassesAt CX X σ (E σ))
    (ha : PA X (e :: es) t) (hdb : (x == ("__debug__" : Str)) = false := by decide) (he : starEach (e :: es) X.env = (false, eval e X.env) :: starEach es X.env := by rfl) (hpl : (backTo pos (starEach es X.env)).any (·.1) = false := by rfl) :
    PE X (.Call (.Name x p) (e :: es) [] pos) (tMakeW C sp E t) := by
  refine ⟨fun pins s σ H Q I h => ?_⟩
  refine wpAny_Call_Name_kw (ld_glob I hg hm ?_ hdb)
  refine PySem.W.callWith_K (h₀ := X.base) I.ok.mod.kin M.kp (thn (ha.run pos pins s σ H _ I h) fun us s1 ⟨vs, H1, I1, r, q⟩ => ⟨I1.kIn, ?_⟩) he hpl
  exact run_makeW M F hr hb (hx σ) I1 r q
end
end L2
namespace DL
open PySem L2
section
variable {X : Cx} {T : Gt} {W : WX}
/-! ### dicts -/
def valD {κ : Type} [DecidableEq κ] (kvs : List (κ × D)) (k : κ) : Option D := (kvs.find? fun kv => decide (kv.1 = k)).map (·.2)
def putD {κ : Type} [DecidableEq κ] (kvs : List (κ × D)) (k : κ) (v : D) : List (κ × D) :=
  if (kvs.any fun kv => decide (kv.1 = k)) = true then kvs.map (fun kv => if kv.1 = k then (kv.1, v) else kv) else kvs ++ [(k, v)]
section
variable {κ : Type} [DecidableEq κ] {K : PySem.W.Frag} {μ : List Addr} {H : Hp}
theorem RKs.val {ws : List (κ × V)} {ds : List (κ × D)} (r : RKs K μ H ws ds) (k : κ) : (valV ws k = none ∧ valD ds k = none) ∨ ∃ v d, valV ws k = some v ∧ valD ds k = some d ∧ RV K μ H v d := by
  induction r with
  | nil => exact .inl ⟨rfl, rfl⟩
  | @cons k' v vs d ds h t ih =>
    by_cases e : k' = k
    · exact .inr ⟨v, d, by simp [valV, List.find?_cons, e], by simp [valD, List.find?_cons, e], h⟩
    · have e1 : valV ((k', v) :: vs) k = valV vs k := by simp [valV, List.find?_cons, e]
      have e2 : valD ((k', d) :: ds) k = valD ds k := by simp [valD, List.find?_cons, e]
      rw [e1, e2]
      exact ih
theorem RKs.any {ws : List (κ × V)} {ds : List (κ × D)} (r : RKs K μ H ws ds) (k : κ) : (ws.any fun kv => decide (kv.1 = k)) = (ds.any fun kv => decide (kv.1 = k)) := by
  induction r with
  | nil => rfl
  | cons h t ih => rw [List.any_cons, List.any_cons, ih]
theorem RKs.append {ws ws' : List (κ × V)} {ds ds' : List (κ × D)} (r : RKs K μ H ws ds) (r' : RKs K μ H ws' ds') : RKs K μ H (ws ++ ws') (ds ++ ds') := by
  induction r with
  | nil => exact r'
  | cons h t ih => exact .cons h ih
theorem RKs.mapPut {ws : List (κ × V)} {ds : List (κ × D)} (r : RKs K μ H ws ds) (k : κ) {v : V} {d : D} (rv : RV K μ H v d) : RKs K μ H (ws.map fun kv => if kv.1 = k then (kv.1, v) else kv) (ds.map fun kv => if kv.1 = k then (kv.1, d) else kv) := by
  induction r with
  | nil => exact .nil
  | @cons k' v' vs d' ds h t ih =>
    rw [List.map_cons, List.map_cons]
    by_cases e : k' = k
    · simp only [e, if_true]
      exact .cons rv ih
    · simp only [e, if_false]
      exact .cons h ih
theorem RKs.put {ws : List (κ × V)} {ds : List (κ × D)} (r : RKs K μ H ws ds) (k : κ) {v : V} {d : D} (rv : RV K μ H v d) : RKs K μ H (putK ws k v) (putD ds k d) := by
  unfold putK putD
  rw [r.any k]
  split
  · exact r.mapPut k rv
  · exact r.append (.cons rv .nil)
end
def keyD : D → Option Key
  | .int i => some (.inl i)
  | .str x => some (.inr x)
  | _ => none
theorem key_of {K : PySem.W.Frag} {μ : List Addr} {H : Hp} {v : V} {d : D} {k : Key} (r : RV K μ H v d) (e : keyD d = some k) : v = kV k := by
  cases r <;> cases e <;> rfl
theorem kV_of {K : PySem.W.Frag} {μ : List Addr} {H : Hp} {d : D} {k : Key} (e : keyD d = some k) : RV K μ H (kV k) d := by
  cases d <;> cases e
  · exact .int _
  · exact .str _
def kD : Key → D
  | .inl i => .int i
  | .inr x => .str x
theorem rv_kD {K : PySem.W.Frag} {μ : List Addr} {H : Hp} (k : Key) : RV K μ H (kV k) (kD k) := by
  cases k
  · exact .int _
  · exact .str _
theorem keyD_kD (k : Key) : keyD (kD k) = some k := by cases k <;> rfl
def dctAt (S : Sto) : D → Option (Nat × List (Key × D))
  | .ref n => match S[n]? with
    | some (.dct kvs) => some (n, kvs)
    | _ => none
  | _ => none
theorem dctAt_of {G : Gc} {μ : List Addr} {S : Sto} {H : Hp} (hs : HS G μ S H) {v : V} {d : D} {n : Nat} {kvs : List (Key × D)} (r : RV G.K μ H v d) (e : dctAt S d = some (n, kvs)) : ∃ a ws, v = .ref a ∧ μ[n]? = some a ∧ H a = some (.dK ws) ∧ RKs G.K μ H ws kvs := by
  cases r with
  | ref q =>
    simp only [dctAt] at e
    split at e
    · cases e
      exact hs.dct (RV.ref q) ‹_›
    · cases e
  | _ => cases e
/-- d[k], d.get(k), d.get(k, x), k in d -/
def dGetI (a b : Den) : Den := fun ε S => (a ε S).bind fun d S => (b ε S).bind fun k S => match dctAt S d, keyD k with
  | some (_, kvs), some k => (match valD kvs k with
    | some v => .ok v S
    | none => .bad)
  | _, _ => .bad
def dGet1 (a b : Den) : Den := fun ε S => (a ε S).bind fun d S => match dctAt S d with
  | some _ => (b ε S).bind fun k S => (match dctAt S d, keyD k with
    | some (_, kvs), some k => .ok ((valD kvs k).getD .non) S
    | _, _ => .bad)
  | none => .bad
def dGet2 (a b c : Den) : Den := fun ε S => (a ε S).bind fun d S => match dctAt S d with
  | some _ => (b ε S).bind fun k S => (c ε S).bind fun x S => (match dctAt S d, keyD k with
    | some (_, kvs), some k => .ok ((valD kvs k).getD x) S
    | _, _ => .bad)
  | none => .bad
theorem pd_dget {o i : Expr} {a b : Den} {pos : Pos} (hu : X.A.units + 1 < cLine) (ha : PE X o (tD (gx X T) W a)) (hb : PE X i (tD (gx X T) W b)) (hn : NoSl i := by exact fun _ _ => rfl) : PE X (.Subscript o i pos) (tD (gx X T) W (dGetI a b)) :=
  (pe_dget hu ha hb hn).imp fun σ H Q ⟨ε, μ, S, sr, hs, h⟩ => ⟨ε, μ, S, sr, hs, (wR.bind (Rl := rlV (gx X T)) sr h).imp fun v H1 ⟨d, μ1, S1, g1, hs1, sr1, r1, h1⟩ =>
    ⟨ε, μ1, S1, sr1, hs1, (wR.bind (Rl := rlV (gx X T)) sr1 h1).imp fun w H2 ⟨e, μ2, S2, g2, hs2, sr2, r2, h2⟩ => by
      split at h2
      · rename_i n kvs k hd hk
        split at h2
        · rename_i x hv
          obtain ⟨p, ws, rfl, en, hp, rk⟩ := dctAt_of hs2 (RV.mono g2 r1) hd
          have ek := key_of r2 hk
          subst ek
          rcases rk.val k with ⟨_, q⟩ | ⟨v', d', q1, q2, q3⟩
          · rw [hv] at q
            cases q
          · rw [hv] at q2
            cases q2
            refine ⟨p, v', rfl, ?_, wR.here hs2 h2 q3⟩
            rw [← q1]
            exact DGet.k hp
        · exact h2.elim
      · exact h2.elim⟩⟩
theorem pd_get2 {o e f : Expr} {a b c : Den} {apos cpos : Pos} (hu : X.A.units + 1 < cLine) (ha : PE X o (tD (gx X T) W a)) (hb : PE X e (tD (gx X T) W b)) (hc : PE X f (tD (gx X T) W c)) (m : M2 X o "get" apos e f cpos := by exact ⟨rfl, rfl, rfl, rfl⟩) :
    PE X (.Call (.Attribute o "get" apos) [e, f] [] cpos) (tD (gx X T) W (dGet2 a b c)) :=
  (pe_dget2 hu ha hb hc m).imp fun σ H Q ⟨ε, μ, S, sr, hs, h⟩ => ⟨ε, μ, S, sr, hs, (wR.bind (Rl := rlV (gx X T)) sr h).imp fun v H1 ⟨d, μ1, S1, g1, hs1, sr1, r1, h1⟩ => by
    split at h1
    · rename_i z hd1
      obtain ⟨n1, kvs1⟩ := z
      obtain ⟨p, ws, rfl, en, hp, rk⟩ := dctAt_of hs1 r1 hd1
      refine ⟨p, rfl, .inl ⟨ws, .inl hp⟩, ε, μ1, S1, sr1, hs1, (wR.bind (Rl := rlV (gx X T)) sr1 h1).imp fun w H2 ⟨e, μ2, S2, g2, hs2, sr2, r2, h2⟩ =>
        ⟨ε, μ2, S2, sr2, hs2, (wR.bind (Rl := rlV (gx X T)) sr2 h2).imp fun u H3 ⟨g, μ3, S3, g3, hs3, sr3, r3, h3⟩ => ?_⟩⟩
      split at h3
      · rename_i n kvs k hd hk
        obtain ⟨p', ws', ev, en', hp', rk'⟩ := dctAt_of hs3 (RV.mono (g2.trans g3) r1) hd
        cases ev
        have ek := key_of (RV.mono g3 r2) hk
        subst ek
        refine ⟨_, DGet.k hp', ?_⟩
        rcases rk'.val k with ⟨q1, q2⟩ | ⟨v', d', q1, q2, q3⟩
        · rw [q1]
          rw [q2] at h3
          exact wR.here hs3 h3 r3
        · rw [q1]
          rw [q2] at h3
          exact wR.here hs3 h3 q3
      · exact h3.elim
    · exact h1.elim⟩
theorem pd_get1 {o e : Expr} {a b : Den} {apos cpos : Pos} (hu : X.A.units + 1 < cLine) (ha : PE X o (tD (gx X T) W a)) (hb : PE X e (tD (gx X T) W b)) (m : M1 X o "get" apos e cpos := by exact ⟨rfl, rfl, rfl, rfl⟩) :
    PE X (.Call (.Attribute o "get" apos) [e] [] cpos) (tD (gx X T) W (dGet1 a b)) :=
  (pe_dget1 hu ha hb m).imp fun σ H Q ⟨ε, μ, S, sr, hs, h⟩ => ⟨ε, μ, S, sr, hs, (wR.bind (Rl := rlV (gx X T)) sr h).imp fun v H1 ⟨d, μ1, S1, g1, hs1, sr1, r1, h1⟩ => by
    split at h1
    · rename_i z hd1
      obtain ⟨n1, kvs1⟩ := z
      obtain ⟨p, ws, rfl, en, hp, rk⟩ := dctAt_of hs1 r1 hd1
      refine ⟨p, rfl, .inl ⟨ws, .inl hp⟩, ε, μ1, S1, sr1, hs1, (wR.bind (Rl := rlV (gx X T)) sr1 h1).imp fun w H2 ⟨e, μ2, S2, g2, hs2, sr2, r2, h2⟩ => ?_⟩
      split at h2
      · rename_i n kvs k hd hk
        obtain ⟨p', ws', ev, en', hp', rk'⟩ := dctAt_of hs2 (RV.mono g2 r1) hd
        cases ev
        have ek := key_of r2 hk
        subst ek
        refine ⟨_, DGet.k hp', ?_⟩
        rcases rk'.val k with ⟨q1, q2⟩ | ⟨v', d', q1, q2, q3⟩
        · rw [q1]
          rw [q2] at h2
          exact wR.here hs2 h2 .non
        · rw [q1]
          rw [q2] at h2
          exact wR.here hs2 h2 q3
      · exact h2.elim
    · exact h1.elim⟩
def dNewK : Den := fun _ S => .ok (.ref S.length) (S ++ [.dct []])
theorem pd_dnew {pos : Pos} : PE X (.Dict [] [] pos) (tD (gx X T) W dNewK) :=
  pe_dnewK.imp fun σ H Q ⟨ε, μ, S, sr, hs, h⟩ p hp => h _ _ _ (Gr.obj hp) (hs.grow hp ⟨_, upd_same, .nil⟩) (.ref hs.last)

/-! ### fields -/
theorem RKs.look {K : PySem.W.Frag} {μ : List Addr} {H : Hp} {ws : List (Str × V)} {ds : List (Str × D)} (r : RKs K μ H ws ds) (f : Str) : (ws.lookup f = none ∧ ds.lookup f = none) ∨ ∃ v d, ws.lookup f = some v ∧ ds.lookup f = some d ∧ RV K μ H v d := by
  induction r with
  | nil => exact .inl ⟨rfl, rfl⟩
  | @cons k' v vs d ds h t ih =>
    by_cases e : f = k'
    · subst e
      exact .inr ⟨v, d, List.lookup_cons_self, List.lookup_cons_self, h⟩
    · have e' : (f == k') = false := beq_eq_false_iff_ne.mpr e
      rw [List.lookup_cons, List.lookup_cons, e']
      exact ih
def putFD (f : Str) (v : D) : List (Str × D) → List (Str × D)
  | [] => [(f, v)]
  | (g, x) :: r => if g = f then (g, v) :: r else (g, x) :: putFD f v r
theorem RKs.putF {K : PySem.W.Frag} {μ : List Addr} {H : Hp} {f : Str} {v : V} {d : D} (rv : RV K μ H v d) : ∀ {ws : List (Str × V)} {ds : List (Str × D)}, RKs K μ H ws ds → RKs K μ H (L2.putF f v ws) (putFD f d ds)
  | _, _, .nil => .cons rv .nil
  | (g, _) :: _, _, .cons h t => by
    unfold L2.putF putFD
    by_cases e : g = f
    · rw [if_pos e, if_pos e]
      exact .cons rv t
    · rw [if_neg e, if_neg e]
      exact .cons h (RKs.putF rv t)
/-- what is known of the classes and this field -/
def FldOk (X : Cx) (T : Gt) (f : Str) : Prop := ∀ c C, T.cA c = some C → Cls X.K C ∧ NoAttr X.K C f
def insAt (S : Sto) : D → Option (Nat × Str × List (Str × D))
  | .ref n => match S[n]? with
    | some (.ins c fs) => some (n, c, fs)
    | _ => none
  | _ => none
theorem insAt_of {G : Gc} {μ : List Addr} {S : Sto} {H : Hp} (hs : HS G μ S H) {v : V} {d : D} {n : Nat} {c : Str} {fs : List (Str × D)} (r : RV G.K μ H v d) (e : insAt S d = some (n, c, fs)) :
    ∃ a C dx ws, v = .ref a ∧ μ[n]? = some a ∧ G.cA c = some C ∧ H a = some (.ins C dx ws) ∧ RKs G.K μ H ws fs := by
  cases r with
  | ref q =>
    simp only [insAt] at e
    split at e
    · cases e
      exact hs.ins (RV.ref q) ‹_›
    · cases e
  | _ => cases e
def dFld (f : Str) (a : Den) : Den := fun ε S => (a ε S).bind fun d S => match insAt S d with
  | some (_, _, fs) => (match fs.lookup f with
    | some v => .ok v S
    | none => .bad)
  | none => .bad
theorem pd_fld {e : Expr} {f : Str} {a : Den} {pos : Pos} (hf : FldOk X T f) (ha : PE X e (tD (gx X T) W a)) (hb : attributeBase e f X.env (eval e X.env) = eval e X.env := by rfl) : PE X (.Attribute e f pos) (tD (gx X T) W (dFld f a)) :=
  (pe_fld ha hb).imp fun σ H Q ⟨ε, μ, S, sr, hs, h⟩ => ⟨ε, μ, S, sr, hs, (wR.bind (Rl := rlV (gx X T)) sr h).imp fun v H1 ⟨d, μ1, S1, g1, hs1, sr1, r1, h1⟩ => by
    split at h1
    · rename_i n c fs hd
      split at h1
      · rename_i x hx
        obtain ⟨p, C, dx, ws, rfl, en, hc, hp, rk⟩ := insAt_of hs1 r1 hd
        obtain ⟨h2, h3⟩ := hf c C hc
        rcases rk.look f with ⟨_, q⟩ | ⟨v', d', q1, q2, q3⟩
        · rw [hx] at q
          cases q
        · rw [hx] at q2
          cases q2
          exact ⟨p, C, dx, ws, v', rfl, hp, h2, h3, q1, wR.here hs1 h1 q3⟩
      · exact h1.elim
    · exact h1.elim⟩

/-! ### defs, methods, classes of the program -/
def wF (G : Gc) (E : XK) (r : R D) (μ : List Addr) (H : Hp) (Q : VK) : Prop :=
  match r with
  | .ok d S' => ∀ v μ' H', Gr μ H μ' H' → HS G μ' S' H' → RV G.K μ' H' v d → Q v H'
  | .exc c S' => ∀ C μ' H', G.xA c = some C → Gr μ H μ' H' → HS G μ' S' H' → E (.ref C) none H'
  | .bad => False
def spD (G : Gc) (np : Nat) (F : Fn) : Sp := fun vs H Q E => ∃ μ S ds, vs.length = np ∧ HS G μ S H ∧ RVs G.K μ H vs ds ∧ wF G E (F ds S) μ H Q
theorem wR.toF {G : Gc} {r : R D} {σ : L2.St} {μ : List Addr} {H : Hp} {Q : VK} (h : wR G W (rlV G) r σ μ H Q) : wF G (WE W σ) r μ H Q := by
  cases r with
  | ok d S' => exact h
  | exc c S' => exact h
  | bad => exact h
def dCall (np : Nat) (F : Fn) (a : DenA) : Den := fun ε S => (a ε S).bind fun ds S => if ds.length = np then F ds S else .bad
abbrev CXo (X : Cx) : CXT := L2.CX X.prog X.w
section
variable {k np : Nat} {f C : Addr} {fd : FuncData} {ps : List Str} {F : Fn} {x m c : Str} {p pos apos : Pos} {e o : Expr} {es : List Expr} {a : DenA} {da : Den}
theorem pd_call (G : FnOk X.prog X.w X.K X.mg X.base (CXo X) k f fd ps (spD (gx X T) np F)) (hr : Room k X.A) (hg : Gl X x) (hm : X.mg x = some (.ref f)) (hk : PySem.W.keepIn X.K (.ref f) = true) (hb : Binds X.K fd ps []) (tk : Takes X W)
    (ha : PA X (e :: es) (tDA (gx X T) W a)) (hdb : (x == ("__debug__" : Str)) = false := by decide) (he : starEach (e :: es) X.env = (false, eval e X.env) :: starEach es X.env := by rfl) (hpl : (backTo pos (starEach es X.env)).any (·.1) = false := by rfl) :
    PE X (.Call (.Name x p) (e :: es) [] pos) (tD (gx X T) W (dCall np F a)) :=
  (pe_callS G hr hg hm hk hb (E := WE W) (fun σ => passAt tk σ) ha hdb he hpl).imp fun σ H Q ⟨ε, μ, S, sr, hs, h⟩ => ⟨ε, μ, S, sr, hs, (wR.bind (Rl := rlA (gx X T)) sr h).imp fun vs H1 ⟨ds, μ1, S1, g1, hs1, sr1, r1, h1⟩ => by
    split at h1
    · rename_i hn
      exact ⟨μ1, S1, ds, (RVs.length r1).trans hn, hs1, r1, h1.toF⟩
    · exact h1.elim⟩
theorem pd_call0 (G : FnOk X.prog X.w X.K X.mg X.base (CXo X) k f fd ps (spD (gx X T) 0 F)) (hr : Room k X.A) (hg : Gl X x) (hm : X.mg x = some (.ref f)) (hk : PySem.W.keepIn X.K (.ref f) = true) (hb : Binds X.K fd ps []) (tk : Takes X W)
    (hdb : (x == ("__debug__" : Str)) = false := by decide) :
    PE X (.Call (.Name x p) [] [] pos) (tD (gx X T) W (dCall 0 F dNil)) :=
  (pe_call0W G hr hg hm hk hb (E := WE W) (fun σ => passAt tk σ) hdb).imp fun σ H Q ⟨ε, μ, S, sr, hs, h⟩ => ⟨μ, S, [], rfl, hs, .nil, wR.toF (W := W) (σ := σ) h⟩
/-- o.m(..): o an instance of the class c -/
def dMeth (c m : Str) (np : Nat) (F : Fn) (o : Den) (a : DenA) : Den := fun ε S => (o ε S).bind fun d S => match insAt S d with
  | some (_, c', fs) => if c' = c ∧ fs.lookup m = none then (a ε S).bind fun ds S => (if ds.length + 1 = np then F (d :: ds) S else .bad) else .bad
  | none => .bad
theorem pd_meth {pl : Sem Bool} (ho : PE X o (tD (gx X T) W da)) (hc : T.cA c = some C) (cl : Cls X.K C) (hm : Meth X.K C m f) (G : FnOk X.prog X.w X.K X.mg X.base (CXo X) k f fd ps (spD (gx X T) np F)) (hr : Room k X.A) (hb : Binds X.K fd ps []) (tk : Takes X W)
    (ha : PA X (e :: es) (tDA (gx X T) W a))
    (hst : starEach (e :: es) X.env = (false, eval e X.env) :: starEach es X.env := by rfl) (hpl : (backTo pos (starEach es X.env)).any (·.1) = false := by rfl)
    (ht : eval (.Call (.Attribute o m apos) (e :: es) [] pos) X.env = (do
      let ov ← eval o X.env
      standAt apos.atName
      let (f, first) ← holding [ov] (getMethod ov m pl)
      callWith pos f first (backTo pos (starEach (e :: es) X.env)) (backToKw pos (keywordEach [] X.env))) := by rfl) :
    PE X (.Call (.Attribute o m apos) (e :: es) [] pos) (tD (gx X T) W (dMeth c m np F da a)) :=
  (pe_methW ho cl hm G hr hb (E := WE W) (fun σ => passAt tk σ) ha hst hpl ht).imp fun σ H Q ⟨ε, μ, S, sr, hs, h⟩ => ⟨ε, μ, S, sr, hs, (wR.bind (Rl := rlV (gx X T)) sr h).imp fun v H1 ⟨d, μ1, S1, g1, hs1, sr1, r1, h1⟩ => by
    split at h1
    · rename_i n c' fs hd
      split at h1
      · rename_i hcm
        obtain ⟨rfl, hl⟩ := hcm
        obtain ⟨p, C', dx, ws, rfl, en, hc', hp, rk⟩ := insAt_of hs1 r1 hd
        have hc'' : T.cA c' = some C' := hc'
        rw [hc] at hc''
        cases hc''
        have hwl : ws.lookup m = none := by
          rcases rk.look m with ⟨q, _⟩ | ⟨_, _, _, q, _⟩
          · exact q
          · rw [hl] at q
            cases q
        refine ⟨p, dx, ws, rfl, hp, hwl, ε, μ1, S1, sr1, hs1, (wR.bind (Rl := rlA (gx X T)) sr1 h1).imp fun vs H2 ⟨ds, μ2, S2, g2, hs2, sr2, r2, h2⟩ => ?_⟩
        split at h2
        · rename_i hn
          refine ⟨μ2, S2, d :: ds, ?_, hs2, .cons (RV.mono g2 r1) r2, h2.toF⟩
          rw [← hn, List.length_cons, RVs.length r2]
        · exact h2.elim
      · exact h1.elim
    · exact h1.elim⟩
theorem pd_meth0 {pl : Sem Bool} (ho : PE X o (tD (gx X T) W da)) (hc : T.cA c = some C) (cl : Cls X.K C) (hm : Meth X.K C m f) (G : FnOk X.prog X.w X.K X.mg X.base (CXo X) k f fd ps (spD (gx X T) 1 F)) (hr : Room k X.A) (hb : Binds X.K fd ps []) (tk : Takes X W)
    (ht : eval (.Call (.Attribute o m apos) [] [] pos) X.env = (do
      let ov ← eval o X.env
      standAt apos.atName
      let (f, first) ← holding [ov] (getMethod ov m pl)
      callWith pos f first (backTo pos (starEach [] X.env)) (backToKw pos (keywordEach [] X.env))) := by rfl) :
    PE X (.Call (.Attribute o m apos) [] [] pos) (tD (gx X T) W (dMeth c m 1 F da dNil)) :=
  (pe_methW0 ho cl hm G hr hb (E := WE W) (fun σ => passAt tk σ) ht).imp fun σ H Q ⟨ε, μ, S, sr, hs, h⟩ => ⟨ε, μ, S, sr, hs, (wR.bind (Rl := rlV (gx X T)) sr h).imp fun v H1 ⟨d, μ1, S1, g1, hs1, sr1, r1, h1⟩ => by
    split at h1
    · rename_i n c' fs hd
      split at h1
      · rename_i hcm
        obtain ⟨rfl, hl⟩ := hcm
        obtain ⟨p, C', dx, ws, rfl, en, hc', hp, rk⟩ := insAt_of hs1 r1 hd
        have hc'' : T.cA c' = some C' := hc'
        rw [hc] at hc''
        cases hc''
        have hwl : ws.lookup m = none := by
          rcases rk.look m with ⟨q, _⟩ | ⟨_, _, _, q, _⟩
          · exact q
          · rw [hl] at q
            cases q
        exact ⟨p, dx, ws, rfl, hp, hwl, μ1, S1, [d], rfl, hs1, .cons r1 .nil, wR.toF (W := W) (σ := σ) h1⟩
      · exact h1.elim
    · exact h1.elim⟩
/-- C(..): a new instance, its __init__ (which hands back None) -/
def dMake (c : Str) (np : Nat) (F : Fn) (a : DenA) : Den := fun ε S => (a ε S).bind fun ds S => if ds.length + 1 = np then (F (.ref S.length :: ds) (S ++ [.ins c []])).bind fun d S' => (match d with
  | .non => .ok (.ref S.length) S'
  | _ => .bad) else .bad
theorem pd_make (hc : T.cA c = some C) (M : Mk X.K C f) (G : FnOk X.prog X.w X.K X.mg X.base (CXo X) k f fd ps (spD (gx X T) np F)) (hr : Room (k + 1) X.A) (hg : Gl X x) (hm : X.mg x = some (.ref C)) (hb : Binds X.K fd ps []) (tk : Takes X W)
    (ha : PA X (e :: es) (tDA (gx X T) W a)) (hdb : (x == ("__debug__" : Str)) = false := by decide) (he : starEach (e :: es) X.env = (false, eval e X.env) :: starEach es X.env := by rfl) (hpl : (backTo pos (starEach es X.env)).any (·.1) = false := by rfl) :
    PE X (.Call (.Name x p) (e :: es) [] pos) (tD (gx X T) W (dMake c np F a)) :=
  (pe_makeW M G hr hg hm hb (E := WE W) (fun σ => passAt tk σ) ha hdb he hpl).imp fun σ H Q ⟨ε, μ, S, sr, hs, h⟩ => ⟨ε, μ, S, sr, hs, (wR.bind (Rl := rlA (gx X T)) sr h).imp fun vs H1 ⟨ds, μ1, S1, g1, hs1, sr1, r1, h1⟩ y dx hy hdx hne => by
    split at h1
    · rename_i hn
      have g2 : Gr μ1 H1 μ1 (upd H1 dx (.own y)) := Gr.new hdx
      have hs2 := hs1.beside (u := .own y) hdx
      have hy2 : (upd H1 dx (.own y)) y = none := by
        rw [upd_ne (Ne.symm hne)]
        exact hy
      have g3 : Gr μ1 H1 (μ1 ++ [y]) (upd (upd H1 dx (.own y)) y (.ins C dx [])) := g2.trans (Gr.obj hy2)
      have hs3 : HS (gx X T) (μ1 ++ [y]) (S1 ++ [.ins c []]) (upd (upd H1 dx (.own y)) y (.ins C dx [])) := hs2.grow hy2 ⟨C, dx, [], hc, upd_same, .nil⟩
      have ry : RV X.K (μ1 ++ [y]) (upd (upd H1 dx (.own y)) y (.ins C dx [])) (.ref y) (.ref S1.length) := .ref hs1.last
      refine ⟨_, _, _, ?_, hs3, .cons ry (RVs.mono g3 r1), ?_⟩
      · rw [← hn, List.length_cons, RVs.length r1]
      · have h2 := wR.up g3 h1
        have h3 := wR.bind (Rl := rlV (gx X T)) (ε := ε) (sr1.mono g3) h2
        refine (h3.imp fun v H2 ⟨d, μ2, S2, g4, hs4, sr4, r4, h4⟩ => ?_).toF
        have r4 : RV X.K μ2 H2 v d := r4
        split at h4
        · cases r4
          exact ⟨rfl, wR.here hs4 h4 (RV.mono g4 ry)⟩
        · exact h4.elim
    · exact h1.elim⟩
end
end
end DL

set_option Elab.async false
set_option linter.all false
set_option maxRecDepth 100000
set_option maxHeartbeats 1000000
/-! Statements, loops, comprehensions. -/
namespace DL
open PySem L2
/-- how a statement ends -/
inductive Fl where
  | nx (ε : Env) | rt (d : D) | bk (ε : Env) | ct (ε : Env) | ex (c : Str) (ε : Env)
abbrev SDen := Env → Sto → R Fl
def wS (G : Gc) (W : WX) (r : R Fl) (μ : List Addr) (H : Hp) (N : Ends) : Prop :=
  match r with
  | .ok (.nx ε) S' => ∀ σ' μ' H', Gr μ H μ' H' → HS G μ' S' H' → SR G.K μ' H' σ' ε → N.nx σ' H'
  | .ok (.rt d) S' => ∀ v μ' H', Gr μ H μ' H' → HS G μ' S' H' → RV G.K μ' H' v d → N.rt v H'
  | .ok (.bk ε) S' => ∀ σ' μ' H', Gr μ H μ' H' → HS G μ' S' H' → SR G.K μ' H' σ' ε → N.bk σ' H'
  | .ok (.ct ε) S' => ∀ σ' μ' H', Gr μ H μ' H' → HS G μ' S' H' → SR G.K μ' H' σ' ε → N.ct σ' H'
  | .ok (.ex c ε) S' => ∀ C σ' μ' H', G.xA c = some C → Gr μ H μ' H' → HS G μ' S' H' → SR G.K μ' H' σ' ε → W (.ref C) none σ' H'
  | .exc _ _ => False
  | .bad => False
def tS (G : Gc) (W : WX) (den : SDen) : TS := fun N σ H => ∃ ε μ S, SR G.K μ H σ ε ∧ HS G μ S H ∧ wS G W (den ε S) μ H N
theorem _root_.L2.PS.imp {X : Cx} {st : Stmt} {t t' : TS} (h : PS X st t) (q : ∀ N σ H, t' N σ H → t N σ H) : PS X st t' := ⟨fun pins s σ H N I z => h.run pins s σ H N I (q _ _ _ z)⟩
theorem _root_.L2.PSs.imp {X : Cx} {st : List Stmt} {t t' : TS} (h : PSs X st t) (q : ∀ N σ H, t' N σ H → t N σ H) : PSs X st t' := ⟨fun pins s σ H N I z => h.run pins s σ H N I (q _ _ _ z)⟩
theorem _root_.L2.PG.imp {X : Cx} {e : Expr} {t t' : TG} (h : PG X e t) (q : ∀ v σ H Q, t' v σ H Q → t v σ H Q) : PG X e t' := ⟨fun pins s σ H v u Q I r z => h.run pins s σ H v u Q I r (q _ _ _ _ z)⟩
theorem _root_.L2.PGs.imp {X : Cx} {e : List Expr} {t t' : TGs} (h : PGs X e t) (q : ∀ v σ H Q, t' v σ H Q → t v σ H Q) : PGs X e t' := ⟨fun pins s σ H v u Q I r z => h.run pins s σ H v u Q I r (q _ _ _ _ z)⟩
theorem _root_.L2.PTs.imp {X : Cx} {e : List Expr} {t t' : TT} (h : PTs X e t) (q : ∀ σ H Q, t' σ H Q → t σ H Q) : PTs X e t' := ⟨fun pins s σ H Q I z => h.run pins s σ H Q I (q _ _ _ z)⟩
theorem _root_.L2.PI.imp {X : Cx} {tg e : Expr} {t t' : TI} (h : PI X tg e t) (q : ∀ σ H Q, t' σ H Q → t σ H Q) : PI X tg e t' := ⟨fun pins s σ H Q I z => h.run pins s σ H Q I (q _ _ _ z)⟩

/-- an expression, then a statement's rest -/
def sE {α : Type} (r : R α) (ε : Env) (k : α → Sto → R Fl) : R Fl := match r with
  | .ok d S => k d S
  | .exc c S => .ok (.ex c ε) S
  | .bad => .bad
/-- a statement, then what follows -/
def sN (r : R Fl) (k : Env → Sto → R Fl) : R Fl := match r with
  | .ok (.nx ε) S => k ε S
  | r => r
section
variable {G : Gc} {W : WX} {α β : Type} {Rl : List Addr → Hp → β → α → Prop} {σ : L2.St} {ε : Env} {μ μ1 : List Addr} {H H1 : Hp} {S : Sto} {N : Ends}
theorem wS.up {r : R Fl} (g : Gr μ H μ1 H1) (h : wS G W r μ H N) : wS G W r μ1 H1 N := by
  cases r with
  | ok f S' =>
    cases f with
    | nx ε => exact fun σ' μ' H' g' => h σ' μ' H' (g.trans g')
    | rt d => exact fun σ' μ' H' g' => h σ' μ' H' (g.trans g')
    | bk ε => exact fun σ' μ' H' g' => h σ' μ' H' (g.trans g')
    | ct ε => exact fun σ' μ' H' g' => h σ' μ' H' (g.trans g')
    | ex c ε => exact fun C σ' μ' H' e g' => h C σ' μ' H' e (g.trans g')
  | exc c S' => exact h
  | bad => exact h
theorem wS.bind {r : R α} {k : α → Sto → R Fl} (sr : SR G.K μ H σ ε) (h : wS G W (sE r ε k) μ H N) :
    wR G W Rl r σ μ H fun v H1 => ∃ d μ1 S1, Gr μ H μ1 H1 ∧ HS G μ1 S1 H1 ∧ SR G.K μ1 H1 σ ε ∧ Rl μ1 H1 v d ∧ wS G W (k d S1) μ1 H1 N := by
  cases r with
  | ok d S' => exact fun v μ' H' g hs rl => ⟨d, μ', S', g, hs, sr.mono g, rl, wS.up g h⟩
  | exc c S' => exact fun C μ' H' e g hs => h C σ μ' H' e g hs (sr.mono g)
  | bad => exact h
end
section
variable {X : Cx} {T : Gt} {W : WX}
/-! ### targets -/
abbrev GDen := D → Env → Sto → Option Env
abbrev GDens := List D → Env → Sto → Option Env
def tG (G : Gc) (js : List Nat) (g : GDen) : TG := fun v σ H Q => ∃ ε μ S d ε', SR G.K μ H σ ε ∧ HS G μ S H ∧ RV G.K μ H v d ∧ g d ε S = some ε' ∧ ∀ σ', SR G.K μ H σ' ε' → σ'.length = σ.length → (∀ j, j ∉ js → σ'[j]? = σ[j]?) → Q σ' H
def tGs (G : Gc) (js : List Nat) (g : GDens) : TGs := fun v σ H Q => ∃ ε μ S d ε', SR G.K μ H σ ε ∧ HS G μ S H ∧ RVs G.K μ H v d ∧ g d ε S = some ε' ∧ ∀ σ', SR G.K μ H σ' ε' → σ'.length = σ.length → (∀ j, j ∉ js → σ'[j]? = σ[j]?) → Q σ' H
def gN (i : Nat) : GDen := fun d ε _ => some (ε.set i (some d))
def gsNil : GDens := fun ds ε _ => match ds with
  | [] => some ε
  | _ => none
def gsCons (g : GDen) (r : GDens) : GDens := fun ds ε S => match ds with
  | d :: ds => (g d ε S).bind fun ε => r ds ε S
  | [] => none
def gT (n : Nat) (g : GDens) : GDen := fun d ε S => match d with
  | .tup ds => if ds.length = n then g ds ε S else none
  | _ => none
def gL (n : Nat) (g : GDens) : GDen := fun d ε S => match litems S d with
  | some ds => if ds.length = n then g ds ε S else none
  | none => none
theorem pgd_name (i : Nat) {x : Str} {pos : Pos} (hN : X.N.Nodup) (hi : X.N[i]? = some x := by rfl) (hx : Loc X.env.scope x := by first | exact Or.inl rfl | exact Or.inr rfl) (hf : X.fn x = true ∨ X.env.scope.names.lookup x = some .local := by first | exact .inl rfl | exact .inr rfl) : PG X (.Name x pos) (tG (gx X T) [i] (gN i)) :=
  (pg_name hN hi hx hf).imp fun v σ H Q ⟨ε, μ, S, d, ε', sr, hs, r, e, q⟩ => by
    cases e
    refine q _ (sr.set r i) (by simp) fun j hj => ?_
    rw [List.getElem?_set_ne]
    rintro rfl
    exact hj (by simp)
theorem pgd_nil : PGs X [] (tGs (gx X T) [] gsNil) := pgs_nil.imp fun v σ H Q ⟨ε, μ, S, d, ε', sr, hs, r, e, q⟩ => by
  cases r with
  | nil => cases e; exact ⟨rfl, q σ sr rfl fun _ _ => rfl⟩
  | cons _ _ => cases e
theorem pgd_cons {e : Expr} {es : List Expr} {js ks : List Nat} {g : GDen} {r : GDens} (h1 : PG X e (tG (gx X T) js g)) (h2 : PGs X es (tGs (gx X T) ks r)) (hs : (assignEach (e :: es) X.env).map (·.2) = assign e X.env :: (assignEach es X.env).map (·.2) := by rfl) :
    PGs X (e :: es) (tGs (gx X T) (js ++ ks) (gsCons g r)) := (pgs_cons h1 h2 hs).imp fun v σ H Q ⟨ε, μ, S, d, ε', sr, hs, r, e, q⟩ => by
  cases r with
  | nil => cases e
  | cons h t =>
    obtain ⟨ε1, e1, e2⟩ := Option.bind_eq_some_iff.mp e
    refine ⟨_, _, rfl, ε, μ, S, _, ε1, sr, hs, h, e1, fun σ1 sr1 l1 k1 => ?_⟩
    refine ⟨ε1, μ, S, _, ε', sr1, hs, t, e2, fun σ2 sr2 l2 k2 => q σ2 sr2 (l2.trans l1) fun j hj => ?_⟩
    rw [List.mem_append, not_or] at hj
    rw [k2 j hj.2, k1 j hj.1]
theorem pgd_tup {es : List Expr} {k n : Nat} {js : List Nat} {pos : Pos} {g : GDens} (hc : X.calm = true) (h : PGs X es (tGs (gx X T) js g)) (hn : (assignEach es X.env).length = n := by rfl) (hst : (assignEach es X.env).findIdx? (·.1) = none := by rfl) :
    PG X (.Tuple es k pos) (tG (gx X T) js (gT n g)) := (pg_tup hc h hn hst).imp fun v σ H Q ⟨ε, μ, S, d, ε', sr, hs, r, e, q⟩ => by
  unfold gT at e
  split at e
  · split at e
    · cases r with
      | tup t rs => exact ⟨_, _, rfl, t.sq, by rw [RVs.length rs]; assumption, ε, μ, S, _, ε', sr, hs, rs, e, q⟩
    · cases e
  · cases e
theorem pgd_lst {es : List Expr} {k n : Nat} {js : List Nat} {pos : Pos} {g : GDens} (hc : X.calm = true) (h : PGs X es (tGs (gx X T) js g)) (hn : (assignEach es X.env).length = n := by rfl) (hst : (assignEach es X.env).findIdx? (·.1) = none := by rfl) :
    PG X (.Tuple es k pos) (tG (gx X T) js (gL n g)) := (pg_lst hc h hn hst).imp fun v σ H Q ⟨ε, μ, S, d, ε', sr, hs, r, e, q⟩ => by
  unfold gL at e
  split at e
  · split at e
    · obtain ⟨a, xs, ev, hq, rs⟩ := litems_of hs r ‹_›
      exact ⟨_, _, ev, hq, by rw [RVs.length rs]; assumption, ε, μ, S, _, ε', sr, hs, rs, e, q⟩
    · cases e
  · cases e

/-! ### plain statements -/
def sNil : SDen := fun ε S => .ok (.nx ε) S
def sSeq (a b : SDen) : SDen := fun ε S => sN (a ε S) b
theorem pssd_nil : PSs X [] (tS (gx X T) W sNil) := pss_nil.imp fun N σ H ⟨ε, μ, S, sr, hs, h⟩ => h σ μ H Gr.refl hs sr
theorem seq_to {a b : SDen} : ∀ N σ H, tS (gx X T) W (sSeq a b) N σ H → tSeq (tS (gx X T) W a) (tS (gx X T) W b) N σ H := fun N σ H ⟨ε, μ, S, sr, hs, h⟩ => by
  refine ⟨ε, μ, S, sr, hs, ?_⟩
  unfold sSeq at h
  cases e : a ε S with
  | ok f S' =>
    rw [e] at h
    cases f with
    | nx ε1 => exact fun σ' μ' H' g hs' sr' => ⟨ε1, μ', S', sr', hs', wS.up g h⟩
    | rt d => exact h
    | bk ε => exact h
    | ct ε => exact h
    | ex c ε => exact h
  | exc c S' => rw [e] at h; exact h
  | bad => rw [e] at h; exact h
theorem pssd_cons {st : Stmt} {rest : List Stmt} {a b : SDen} (h1 : PS X st (tS (gx X T) W a)) (h2 : PSs X rest (tS (gx X T) W b)) : PSs X (st :: rest) (tS (gx X T) W (sSeq a b)) := (pss_cons h1 h2).imp seq_to
theorem pssd_one {st : Stmt} {a : SDen} (h1 : PS X st (tS (gx X T) W a)) : PSs X [st] (tS (gx X T) W a) := pss_one h1
theorem psd_pass {pos : Pos} : PS X (.Pass pos) (tS (gx X T) W sNil) := ps_pass.imp fun N σ H ⟨ε, μ, S, sr, hs, h⟩ => h σ μ H Gr.refl hs sr
def sRet (a : Den) : SDen := fun ε S => sE (a ε S) ε fun d S => .ok (.rt d) S
theorem psd_ret {e : Expr} {a : Den} {pos : Pos} (ha : PE X e (tD (gx X T) W a)) : PS X (.Return (some e) pos) (tS (gx X T) W (sRet a)) :=
  (ps_ret ha).imp fun N σ H ⟨ε, μ, S, sr, hs, h⟩ => ⟨ε, μ, S, sr, hs, (wS.bind (Rl := rlV (gx X T)) sr h).imp fun v H1 ⟨d, μ1, S1, g1, hs1, sr1, r1, h1⟩ => h1 v μ1 H1 Gr.refl hs1 r1⟩
def sRetN : SDen := fun _ S => .ok (.rt .non) S
theorem psd_retN {pos : Pos} : PS X (.Return none pos) (tS (gx X T) W sRetN) := ps_retN.imp fun N σ H ⟨ε, μ, S, sr, hs, h⟩ => h .non μ H Gr.refl hs .non
def sExpr (a : Den) : SDen := fun ε S => sE (a ε S) ε fun _ S => .ok (.nx ε) S
theorem psd_expr {e : Expr} {a : Den} {pos : Pos} (ha : PE X e (tD (gx X T) W a)) (hs : swapsWith e none pos.line X.env = pure false := by rfl) : PS X (.Expr e pos) (tS (gx X T) W (sExpr a)) :=
  (ps_expr ha hs).imp fun N σ H ⟨ε, μ, S, sr, hs, h⟩ => ⟨ε, μ, S, sr, hs, (wS.bind (Rl := rlV (gx X T)) sr h).imp fun v H1 ⟨d, μ1, S1, g1, hs1, sr1, r1, h1⟩ => h1 σ μ1 H1 Gr.refl hs1 sr1⟩
def sAsg (a : Den) (g : GDen) : SDen := fun ε S => sE (a ε S) ε fun d S => match g d ε S with
  | some ε' => .ok (.nx ε') S
  | none => .bad
theorem asg_to {te : TE} {a : Den} {js : List Nat} {g : GDen} {tg' : TG} (h0 : ∀ σ H Q, tD (gx X T) W a σ H Q → te σ H Q) (h1 : ∀ v σ H Q, tG (gx X T) js g v σ H Q → tg' v σ H Q) : ∀ N σ H, tS (gx X T) W (sAsg a g) N σ H → tAsg te tg' N σ H := fun N σ H ⟨ε, μ, S, sr, hs, h⟩ =>
  h0 _ _ _ ⟨ε, μ, S, sr, hs, (wS.bind (Rl := rlV (gx X T)) sr h).imp fun v H1 ⟨d, μ1, S1, g1, hs1, sr1, r1, h2⟩ => by
    split at h2
    · exact h1 _ _ _ _ ⟨ε, μ1, S1, d, _, sr1, hs1, r1, ‹_›, fun σ' sr' _ _ => h2 σ' μ1 H1 Gr.refl hs1 sr'⟩
    · exact h2.elim⟩
theorem psd_asg {tg e : Expr} {a : Den} {js : List Nat} {g : GDen} {pos : Pos} (ha : PE X e (tD (gx X T) W a)) (hg : PG X tg (tG (gx X T) js g)) (hs : swapsWithSole [tg] e pos.line X.env = pure false := by rfl) (hw : swappedStores [tg] e X.env = pure none := by rfl)
    (h1 : (assignEach [tg] X.env).map (·.2) = [assign tg X.env] := by rfl) : PS X (.Assign [tg] e pos) (tS (gx X T) W (sAsg a g)) :=
  (ps_asg ha hg hs hw h1).imp (asg_to (fun _ _ _ h => h) fun _ _ _ _ h => h)
def sIf (c : DenB) (a b : SDen) : SDen := fun ε S => sE (c ε S) ε fun k S => if k = true then a ε S else b ε S
theorem psd_if {c : Expr} {u v : List Stmt} {bc : DenB} {a b : SDen} {pos : Pos} (hc : PT X c (tDB (gx X T) W bc)) (ha : PSs X u (tS (gx X T) W a)) (hb : PSs X v (tS (gx X T) W b)) : PS X (.If c u v pos) (tS (gx X T) W (sIf bc a b)) :=
  (ps_if hc ha hb).imp fun N σ H ⟨ε, μ, S, sr, hs, h⟩ => ⟨ε, μ, S, sr, hs, (wS.bind (Rl := rlB) sr h).imp fun v H1 ⟨d, μ1, S1, g1, hs1, sr1, r1, h1⟩ => by
    have r1 : v = d := r1
    subst r1
    cases v with
    | true => exact ⟨ε, μ1, S1, sr1, hs1, h1⟩
    | false => exact ⟨ε, μ1, S1, sr1, hs1, h1⟩⟩
/-- a statement that is not to be reached -/
def sNever : SDen := fun _ _ => .bad
theorem psd_never {st : Stmt} : PS X st (tS (gx X T) W sNever) := ⟨fun _ _ _ _ _ _ ⟨_, _, _, _, _, h⟩ => h.elim⟩
/-- o.f = e -/
def sFldD (f : Str) (v o : Den) : SDen := fun ε S => sE (v ε S) ε fun d S => sE (o ε S) ε fun x S => match insAt S x with
  | some (n, c, fs) => if fs.length < 1000 then .ok (.nx ε) (S.set n (.ins c (putFD f d fs))) else .bad
  | none => .bad
theorem psd_fld {o value : Expr} {f : Str} {pos pos' : Pos} {v a : Den} (hf : FldOk X T f) (ho : PE X o (tD (gx X T) W a)) (hv : PE X value (tD (gx X T) W v)) (hsw : swapsWith value (some (.Attribute o f pos')) pos.line X.env = pure false := by rfl) :
    PS X (.Assign [.Attribute o f pos'] value pos) (tS (gx X T) W (sFldD f v a)) :=
  (ps_fld ho hv hsw).imp fun N σ H ⟨ε, μ, S, sr, hs, h⟩ => ⟨ε, μ, S, sr, hs, (wS.bind (Rl := rlV (gx X T)) sr h).imp fun v H1 ⟨d, μ1, S1, g1, hs1, sr1, r1, h1⟩ =>
    ⟨ε, μ1, S1, sr1, hs1, (wS.bind (Rl := rlV (gx X T)) sr1 h1).imp fun w H2 ⟨x, μ2, S2, g2, hs2, sr2, r2, h2⟩ => by
      split at h2
      · rename_i n c fs hd
        split at h2
        · obtain ⟨p, C, dx, ws, rfl, en, hc, hp, rk⟩ := insAt_of hs2 r2 hd
          obtain ⟨h3, h4⟩ := hf c C hc
          have g3 : Gr μ2 H2 μ2 (upd H2 p (.ins C dx (L2.putF f v ws))) := Gr.write (List.mem_of_getElem? en)
          refine ⟨p, C, dx, ws, rfl, hp, h3, h4, by rw [rk.length]; assumption, h2 σ μ2 _ g3 (hs2.put en ⟨C, dx, _, hc, upd_same, ?_⟩) (sr2.mono g3)⟩
          exact (rk.mono g3).putF ((RV.mono g2 r1).mono g3)
        · exact h2.elim
      · exact h2.elim⟩⟩
/-- d[k] = e -/
def sDPutD (d k v : Den) : SDen := fun ε S => sE (v ε S) ε fun x S => sE (d ε S) ε fun o S => sE (k ε S) ε fun y S => match dctAt S o, keyD y with
  | some (n, kvs), some j => if kvs.length < big then .ok (.nx ε) (S.set n (.dct (putD kvs j x))) else .bad
  | _, _ => .bad
theorem psd_dput {o i value : Expr} {pos pos' : Pos} {d k v : Den} (hu : X.A.units + 1 < cLine) (ho : PE X o (tD (gx X T) W d)) (hi : PE X i (tD (gx X T) W k)) (hv : PE X value (tD (gx X T) W v)) (hsw : swapsWith value (some (.Subscript o i pos')) pos.line X.env = pure false := by rfl) :
    PS X (.Assign [.Subscript o i pos'] value pos) (tS (gx X T) W (sDPutD d k v)) :=
  (ps_dput hu ho hi hv hsw).imp fun N σ H ⟨ε, μ, S, sr, hs, h⟩ => ⟨ε, μ, S, sr, hs, (wS.bind (Rl := rlV (gx X T)) sr h).imp fun v H1 ⟨x, μ1, S1, g1, hs1, sr1, r1, h1⟩ =>
    ⟨ε, μ1, S1, sr1, hs1, (wS.bind (Rl := rlV (gx X T)) sr1 h1).imp fun w H2 ⟨o, μ2, S2, g2, hs2, sr2, r2, h2⟩ =>
      ⟨ε, μ2, S2, sr2, hs2, (wS.bind (Rl := rlV (gx X T)) sr2 h2).imp fun u H3 ⟨y, μ3, S3, g3, hs3, sr3, r3, h3⟩ => by
        split at h3
        · rename_i n kvs j hd hk
          split at h3
          · obtain ⟨p, ws, rfl, en, hp, rk⟩ := dctAt_of hs3 (RV.mono g3 r2) hd
            have ek := key_of r3 hk
            subst ek
            have g4 : Gr μ3 H3 μ3 (upd H3 p (.dK (putK ws j v))) := Gr.write (List.mem_of_getElem? en)
            refine ⟨p, _, rfl, DPut.k hp (by rw [rk.length]; exact big_lt (Nat.le_of_lt ‹_›)), h3 σ μ3 _ g4 (hs3.put en ⟨_, upd_same, ?_⟩) (sr3.mono g4)⟩
            exact (rk.mono g4).put j (((RV.mono g2 r1).mono g3).mono g4)
          · exact h3.elim
        · exact h3.elim⟩⟩⟩
/-- xs[i] = e -/
def sLPutD (l k v : Den) : SDen := fun ε S => sE (v ε S) ε fun x S => sE (l ε S) ε fun o S => sE (k ε S) ε fun y S => match o, y with
  | .ref n, .int i => (match S[n]? with
    | some (.lst ds) => (match ixN ds.length i with
      | some j => .ok (.nx ε) (S.set n (.lst (ds.set j x)))
      | none => .bad)
    | _ => .bad)
  | _, _ => .bad
theorem psd_lput {o i value : Expr} {pos pos' : Pos} {l k v : Den} (ho : PE X o (tD (gx X T) W l)) (hi : PE X i (tD (gx X T) W k)) (hv : PE X value (tD (gx X T) W v))
    (hs : swapsWithSole [.Subscript o i pos'] value pos.line X.env = pure false := by rfl) (hw : swappedStores [.Subscript o i pos'] value X.env = pure none := by rfl)
    (h1 : (assignEach [.Subscript o i pos'] X.env).map (·.2) = [assign (.Subscript o i pos') X.env] := by rfl)
    (h2 : ∀ v, assign (.Subscript o i pos') X.env v = (do
        let ov ← holding [v] (eval o X.env)
        let iv ← holding [v, ov] (eval i X.env)
        standAt pos'
        holding [v, ov, iv] (setItem ov iv v)
        release [v, ov, iv] []) := by intro _; rfl) :
    PS X (.Assign [.Subscript o i pos'] value pos) (tS (gx X T) W (sLPutD l k v)) :=
  (ps_asg hv (pg_sub ho hi set_list h2) hs hw h1).imp fun N σ H ⟨ε, μ, S, sr, hs, h⟩ => ⟨ε, μ, S, sr, hs, (wS.bind (Rl := rlV (gx X T)) sr h).imp fun v H1 ⟨x, μ1, S1, g1, hs1, sr1, r1, h1⟩ =>
    ⟨ε, μ1, S1, sr1, hs1, (wS.bind (Rl := rlV (gx X T)) sr1 h1).imp fun w H2 ⟨o, μ2, S2, g2, hs2, sr2, r2, h2⟩ =>
      ⟨ε, μ2, S2, sr2, hs2, (wS.bind (Rl := rlV (gx X T)) sr2 h2).imp fun u H3 ⟨y, μ3, S3, g3, hs3, sr3, r3, h3⟩ => by
        split at h3
        · split at h3
          · split at h3
            · rename_i j hj
              obtain ⟨p, xs, rfl, en, hp, rs⟩ := hs3.lst (RV.mono g3 r2) ‹_›
              have r3 : RV X.K μ3 H3 u (.int _) := r3
              cases r3
              have g4 : Gr μ3 H3 μ3 (upd H3 p (.lst (xs.set j v))) := Gr.write (List.mem_of_getElem? en)
              refine ⟨p, xs, _, _, rfl, rfl, hp, by rw [RVs.length rs]; exact hj, h3 σ μ3 _ g4 (hs3.put en ⟨_, upd_same, ?_⟩) (sr3.mono g4)⟩
              exact (rs.mono g4).set (((RV.mono g2 r1).mono g3).mono g4) _
            · exact h3.elim
          · exact h3.elim
        · exact h3.elim⟩⟩⟩
/-- while -/
def whl (c : DenB) (b : SDen) : Nat → SDen
  | 0 => fun _ _ => .bad
  | m + 1 => fun ε S => sE (c ε S) ε fun k S => if k = true then (match b ε S with
    | .ok (.nx ε') S' => whl c b m ε' S'
    | .ok (.ct ε') S' => whl c b m ε' S'
    | .ok (.bk ε') S' => .ok (.nx ε') S'
    | r => r) else .ok (.nx ε) S
theorem psd_while (m : Nat) {c : Expr} {body : List Stmt} {bc : DenB} {b : SDen} {pos : Pos} (po : PassesOwn (model X.prog X.w) X.A X.env X.xe) (hc : PT X c (tDB (gx X T) W bc)) (hb : PSs X body (tS (gx X T) W b)) : PS X (.While c body [] pos) (tS (gx X T) W (whl bc b m)) :=
  (ps_while po hc hb).imp fun N σ H ⟨ε, μ, S, sr, hs, h⟩ => by
    refine ⟨fun k σ' H' => ∃ ε' μ' S', SR X.K μ' H' σ' ε' ∧ HS (gx X T) μ' S' H' ∧ wS (gx X T) W (whl bc b k ε' S') μ' H' N, ⟨m, ε, μ, S, sr, hs, h⟩, ?_⟩
    rintro k σ1 H1 ⟨ε1, μ1, S1, sr1, hs1, h1⟩
    cases k with
    | zero => exact h1.elim
    | succ k =>
      refine ⟨ε1, μ1, S1, sr1, hs1, (wS.bind (Rl := rlB) sr1 h1).imp fun v H2 ⟨d, μ2, S2, g2, hs2, sr2, r2, h2⟩ => ?_⟩
      have r2 : v = d := r2
      subst r2
      cases v with
      | false => exact h2 σ1 μ2 H2 Gr.refl hs2 sr2
      | true =>
        simp only [if_true] at h2 ⊢
        refine ⟨fun σ' H' => ∃ ε' μ' S', SR X.K μ' H' σ' ε' ∧ HS (gx X T) μ' S' H' ∧ wS (gx X T) W (whl bc b k ε' S') μ' H' N, fun σ' H' z => ⟨k, Nat.lt_succ_self k, z⟩, ε1, μ2, S2, sr2, hs2, ?_⟩
        cases e : b ε1 S2 with
        | ok f S' =>
          rw [e] at h2
          cases f with
          | nx ε3 => exact fun σ' μ' H' g hs' sr' => ⟨ε3, μ', S', sr', hs', wS.up g h2⟩
          | ct ε3 => exact fun σ' μ' H' g hs' sr' => ⟨ε3, μ', S', sr', hs', wS.up g h2⟩
          | bk ε3 => exact h2
          | rt d => exact h2
          | ex c ε => exact h2
        | exc c S' => rw [e] at h2; exact h2
        | bad => rw [e] at h2; exact h2

/-! ### what is walked -/
abbrev Src := Sto → Option (List D)
/-- the iterator J walks what src tells -/
def Sim (G : Gc) (J : It) (src : Src) (μ : List Addr) (H : Hp) : Prop := ∀ i μ' H' S' ds, Gr μ H μ' H' → HS G μ' S' H' → src S' = some ds →
  (ds[i]? = none → J.stop i H') ∧ ∀ d, ds[i]? = some d → J.go i H' ∧ ∀ x H'', J.yld i H' x H'' → Gr μ' H' μ' H'' ∧ HS G μ' S' H'' ∧ RV G.K μ' H'' x d
def rlI (G : Gc) : List Addr → Hp → It → Src → Prop := fun μ H J src => Sim G J src μ H
abbrev IDen := Env → Sto → R Src
abbrev tIt (G : Gc) (W : WX) (den : IDen) : TI := tR G W (rlI G) den
theorem Sim.up {G : Gc} {J : It} {src : Src} {μ μ1 : List Addr} {H H1 : Hp} (g : Gr μ H μ1 H1) (h : Sim G J src μ H) : Sim G J src μ1 H1 := fun i μ' H' S' ds g' => h i μ' H' S' ds (g.trans g')
theorem sim_seq {G : Gc} {μ : List Addr} {S : Sto} {H : Hp} {a : Addr} {d : D} (r : RV G.K μ H (.ref a) d) : Sim G (Itl G.K a) (fun S => litems S d) μ H := fun i μ' H' S' ds g hs e => by
  obtain ⟨a', xs, ev, hq, rs⟩ := litems_of hs (r.mono g) e
  cases ev
  refine ⟨fun hn => ⟨xs, hq, ?_⟩, fun d hd => ?_⟩
  · rw [RVs.length rs]
    exact List.getElem?_eq_none_iff.mp hn
  · obtain ⟨v, hv, rv⟩ := RVs.get rs hd
    refine ⟨⟨xs, v, hq, hv⟩, fun x H'' ⟨eh, hx⟩ => ?_⟩
    subst eh
    rw [hx xs hq] at hv
    cases hv
    exact ⟨Gr.refl, hs, rv⟩
theorem sim_tup {G : Gc} {μ : List Addr} {H : Hp} {a : Addr} {ds : List D} (r : RV G.K μ H (.ref a) (.tup ds)) : Sim G (Itt G.K a) (fun _ => some ds) μ H := fun i μ' H' S' es g hs e => by
  cases e
  have r' := r.mono g
  cases r' with
  | tup t rs =>
    refine ⟨fun hn => ⟨_, t.sq, ?_⟩, fun d hd => ?_⟩
    · rw [RVs.length rs]
      exact List.getElem?_eq_none_iff.mp hn
    · obtain ⟨v, hv, rv⟩ := RVs.get rs hd
      refine ⟨⟨_, v, t.sq, hv⟩, fun x H'' ⟨eh, hx⟩ => ?_⟩
      subst eh
      rw [hx _ t.sq] at hv
      cases hv
      exact ⟨Gr.refl, hs, rv⟩
def iSeq (a : Den) : IDen := fun ε S => (a ε S).bind fun d S => match litems S d with
  | some _ => .ok (fun S => litems S d) S
  | none => .bad
theorem pid_seq {tg e : Expr} {a : Den} (ha : PE X e (tD (gx X T) W a)) : PI X tg e (tIt (gx X T) W (iSeq a)) :=
  (pi_list ha).imp fun σ H Q ⟨ε, μ, S, sr, hs, h⟩ => ⟨ε, μ, S, sr, hs, (wR.bind (Rl := rlV (gx X T)) sr h).imp fun v H1 ⟨d, μ1, S1, g1, hs1, sr1, r1, h1⟩ => by
    split at h1
    · obtain ⟨a, xs, rfl, hq, rs⟩ := litems_of hs1 r1 ‹_›
      exact ⟨a, rfl, ⟨xs, hq⟩, wR.here hs1 h1 (sim_seq (G := gx X T) (S := S1) r1)⟩
    · exact h1.elim⟩
def iTupD (a : Den) : IDen := fun ε S => (a ε S).bind fun d S => match d with
  | .tup ds => .ok (fun _ => some ds) S
  | _ => .bad
theorem pid_tup {tg e : Expr} {a : Den} (ha : PE X e (tD (gx X T) W a)) : PI X tg e (tIt (gx X T) W (iTupD a)) :=
  (pi_tup ha).imp fun σ H Q ⟨ε, μ, S, sr, hs, h⟩ => ⟨ε, μ, S, sr, hs, (wR.bind (Rl := rlV (gx X T)) sr h).imp fun v H1 ⟨d, μ1, S1, g1, hs1, sr1, r1, h1⟩ => by
    split at h1
    · have r2 : RV X.K μ1 H1 v (.tup _) := r1
      cases r2 with
      | tup t rs => exact ⟨_, rfl, ⟨_, t.sq⟩, wR.here hs1 h1 (sim_tup (G := gx X T) (.tup t rs))⟩
    · exact h1.elim⟩
def signs (x : Str) : List D := x.cps.toList.map fun c => .str ⟨#[c]⟩
def iSigns (a : Den) : IDen := fun ε S => (a ε S).bind fun d S => match d with
  | .str x => .ok (fun _ => some (signs x)) S
  | _ => .bad
theorem pid_str {tg e : Expr} {a : Den} (ha : PE X e (tD (gx X T) W a)) : PI X tg e (tIt (gx X T) W (iSigns a)) :=
  (pi_str ha).imp fun σ H Q ⟨ε, μ, S, sr, hs, h⟩ => ⟨ε, μ, S, sr, hs, (wR.bind (Rl := rlV (gx X T)) sr h).imp fun v H1 ⟨d, μ1, S1, g1, hs1, sr1, r1, h1⟩ => by
    split at h1
    · have r2 : RV X.K μ1 H1 v (.str _) := r1
      rename_i x
      cases r2 with
      | str =>
        refine ⟨x, rfl, wR.here hs1 h1 ?_⟩
        intro i μ' H' S' ds g hs' e
        cases e
        have ln : (signs x).length = x.cps.size := by unfold signs; rw [List.length_map, Array.length_toList]
        refine ⟨fun hn => ?_, fun d hd => ?_⟩
        · have q := List.getElem?_eq_none_iff.mp hn
          rw [ln] at q
          exact q
        · have q := (List.getElem?_eq_some_iff.mp hd).1
          rw [ln] at q
          refine ⟨q, fun y H'' ⟨eh, c, hc, ey⟩ => ?_⟩
          subst eh ey
          unfold signs at hd
          rw [List.getElem?_map, Array.getElem?_toList, hc] at hd
          cases hd
          exact ⟨Gr.refl, hs', .str _⟩
    · exact h1.elim⟩
def nums (lo : Int) (n : Nat) : List D := (List.range n).map fun (k : Nat) => D.int (lo + (k : Int))
theorem nums_len (lo : Int) (n : Nat) : (nums lo n).length = n := by unfold nums; rw [List.length_map, List.length_range]
theorem sim_range {G : Gc} {μ : List Addr} {H : Hp} (lo : Int) (n : Nat) : Sim G (Itr lo n) (fun _ => some (nums lo n)) μ H := fun i μ' H' S' ds g hs e => by
  cases e
  refine ⟨fun hn => ?_, fun d hd => ?_⟩
  · have q := List.getElem?_eq_none_iff.mp hn
    rw [nums_len] at q
    exact q
  · have q := (List.getElem?_eq_some_iff.mp hd).1
    rw [nums_len] at q
    refine ⟨q, fun y H'' ⟨eh, ey⟩ => ?_⟩
    subst eh ey
    unfold nums at hd
    rw [List.getElem?_map, List.getElem?_range q] at hd
    cases hd
    exact ⟨Gr.refl, hs, .int _⟩
def okR (i : Int) : Prop := -(2 ^ 62) ≤ i ∧ i < 2 ^ 62
instance (i : Int) : Decidable (okR i) := by unfold okR; infer_instance
def iRange1 (a : Den) : IDen := fun ε S => (a ε S).bind fun d S => match d with
  | .int j => if okR j then .ok (fun _ => some (nums 0 j.toNat)) S else .bad
  | _ => .bad
theorem pid_range1 {tg e : Expr} {a : Den} {p pos : Pos} (hg : Gl X "range") (hm : X.mg "range" = none) (ha : PE X e (tD (gx X T) W a)) (hst : starEach [e] X.env = [(false, eval e X.env)] := by rfl) : PI X tg (.Call (.Name "range" p) [e] [] pos) (tIt (gx X T) W (iRange1 a)) :=
  (pi_range1 hg hm (pa_cons ha pa_nil hst) hst).imp fun σ H Q ⟨ε, μ, S, sr, hs, h⟩ => ⟨ε, μ, S, sr, hs, (wR.bind (Rl := rlV (gx X T)) sr h).imp fun v H1 ⟨d, μ1, S1, g1, hs1, sr1, r1, h1⟩ => by
    split at h1
    · split at h1
      · rename_i hj
        have r2 : RV X.K μ1 H1 v (.int _) := r1
        cases r2
        exact ⟨_, rfl, hj.1, hj.2, wR.here hs1 h1 (sim_range 0 _)⟩
      · exact h1.elim
    · exact h1.elim⟩
def iRange2 (a b : Den) : IDen := fun ε S => (a ε S).bind fun d S => (b ε S).bind fun e S => match d, e with
  | .int i, .int j => if okR i ∧ okR j then .ok (fun _ => some (nums i (j - i).toNat)) S else .bad
  | _, _ => .bad
theorem pid_range2 {tg e f : Expr} {a b : Den} {p pos : Pos} (hg : Gl X "range") (hm : X.mg "range" = none) (ha : PE X e (tD (gx X T) W a)) (hb : PE X f (tD (gx X T) W b)) (hst : starEach [e, f] X.env = [(false, eval e X.env), (false, eval f X.env)] := by rfl) (hst2 : starEach [f] X.env = [(false, eval f X.env)] := by rfl) :
    PI X tg (.Call (.Name "range" p) [e, f] [] pos) (tIt (gx X T) W (iRange2 a b)) :=
  (pi_range2 hg hm (pa_cons ha (pa_cons hb pa_nil hst2) (by rw [hst, hst2])) hst hst2).imp fun σ H Q ⟨ε, μ, S, sr, hs, h⟩ => ⟨ε, μ, S, sr, hs, (wR.bind (Rl := rlV (gx X T)) sr h).imp fun v H1 ⟨d, μ1, S1, g1, hs1, sr1, r1, h1⟩ =>
    ⟨ε, μ1, S1, sr1, hs1, (wR.bind (Rl := rlV (gx X T)) sr1 h1).imp fun w H2 ⟨e, μ2, S2, g2, hs2, sr2, r2, h2⟩ => by
    split at h2
    · split at h2
      · rename_i hj
        have r3 : RV X.K μ2 H2 v (.int _) := RV.mono g2 r1
        have r4 : RV X.K μ2 H2 w (.int _) := r2
        cases r3
        cases r4
        exact ⟨_, _, rfl, ⟨hj.1.1, hj.1.2, hj.2.1, hj.2.2⟩, wR.here hs2 h2 (sim_range _ _)⟩
      · exact h2.elim
    · exact h2.elim⟩⟩
def pairs : List D → List D → List D
  | a :: as, b :: bs => .tup [a, b] :: pairs as bs
  | _, _ => []
theorem pairs_get : ∀ {as bs : List D} {i : Nat} {a b : D}, as[i]? = some a → bs[i]? = some b → (pairs as bs)[i]? = some (.tup [a, b])
  | a :: as, b :: bs, 0, _, _, h1, h2 => by cases h1; cases h2; rfl
  | a :: as, b :: bs, i + 1, _, _, h1, h2 => pairs_get (as := as) (bs := bs) (by simpa using h1) (by simpa using h2)
theorem pairs_at : ∀ {as bs : List D} {i : Nat} {d : D}, (pairs as bs)[i]? = some d → ∃ a b, as[i]? = some a ∧ bs[i]? = some b ∧ d = .tup [a, b]
  | a :: as, b :: bs, 0, _, h => by cases h; exact ⟨a, b, rfl, rfl, rfl⟩
  | a :: as, b :: bs, i + 1, d, h => by
    obtain ⟨x, y, h1, h2, h3⟩ := pairs_at (as := as) (bs := bs) (i := i) (d := d) (by simpa [pairs] using h)
    exact ⟨x, y, by simpa using h1, by simpa using h2, h3⟩
  | [], _, _, _, h => by simp [pairs] at h
  | _ :: _, [], _, _, h => by simp [pairs] at h
theorem pairs_none {as bs : List D} {i : Nat} (h : (pairs as bs)[i]? = none) : as.length ≤ i ∨ bs.length ≤ i := by
  by_cases h1 : i < as.length
  · by_cases h2 : i < bs.length
    · rw [pairs_get (List.getElem?_eq_getElem h1) (List.getElem?_eq_getElem h2)] at h
      cases h
    · exact .inr (Nat.le_of_not_lt h2)
  · exact .inl (Nat.le_of_not_lt h1)
/-- zip of two tuples, of two lists -/
def iZipD (a b : Den) : IDen := fun ε S => (a ε S).bind fun d S => (b ε S).bind fun e S => match d, e with
  | .tup xs, .tup ys => .ok (fun _ => some (pairs xs ys)) S
  | d, e => match litems S d, litems S e with
    | some _, some _ => .ok (fun S => match litems S d, litems S e with
      | some xs, some ys => some (pairs xs ys)
      | _, _ => none) S
    | _, _ => .bad
theorem pair_new {G : Gc} {μ : List Addr} {S : Sto} {H : Hp} {p : Addr} {x y : V} {d e : D} (hs : HS G μ S H) (hp : H p = none) (r1 : RV G.K μ H x d) (r2 : RV G.K μ H y e) :
    Gr μ H μ (upd H p (.tup [x, y])) ∧ HS G μ S (upd H p (.tup [x, y])) ∧ RV G.K μ (upd H p (.tup [x, y])) (.ref p) (.tup [d, e]) :=
  ⟨Gr.new hp, hs.beside hp, .tup ⟨hs.fresh hp, upd_same⟩ (.cons (r1.mono (Gr.new hp)) (.cons (r2.mono (Gr.new hp)) .nil))⟩
theorem pid_zip {e f : Expr} {a b : Den} {p pos tpos : Pos} {elts : List Expr} {kk : Nat} (hg : Gl X "zip") (hm : X.mg "zip" = none) (ha : PE X e (tD (gx X T) W a)) (hb : PE X f (tD (gx X T) W b)) (hst : starEach [e, f] X.env = (false, eval e X.env) :: starEach [f] X.env := by rfl)
    (hst2 : starEach [f] X.env = (false, eval f X.env) :: starEach [] X.env := by rfl) (hpl : (backTo pos (starEach [f] X.env)).any (·.1) = false := by rfl) : PI X (.Tuple elts kk tpos) (.Call (.Name "zip" p) [e, f] [] pos) (tIt (gx X T) W (iZipD a b)) :=
  (RZ.pi_zipA hg hm (pa_cons ha (pa_cons hb pa_nil hst2) hst) hst hpl).imp fun σ H Q ⟨ε, μ, S, sr, hs, h⟩ => ⟨ε, μ, S, sr, hs, (wR.bind (Rl := rlV (gx X T)) sr h).imp fun v H1 ⟨d, μ1, S1, g1, hs1, sr1, r1, h1⟩ =>
    ⟨ε, μ1, S1, sr1, hs1, (wR.bind (Rl := rlV (gx X T)) sr1 h1).imp fun w H2 ⟨e, μ2, S2, g2, hs2, sr2, r2, h2⟩ => by
    have r1 : RV X.K μ2 H2 v d := RV.mono g2 r1
    have r2 : RV X.K μ2 H2 w e := r2
    split at h2
    · cases r1 with
      | tup t1 rs1 =>
        cases r2 with
        | tup t2 rs2 =>
          refine ⟨_, _, _, _, rfl, .inr ⟨t1.sq, t2.sq, wR.here hs2 h2 ?_⟩⟩
          intro i μ' H' S' ds g hs' e
          cases e
          have u1 := TupA.monoI g.i t1
          have u2 := TupA.monoI g.i t2
          have rs1 := RVs.mono g rs1
          have rs2 := RVs.mono g rs2
          refine ⟨fun hn => ⟨_, _, u1.sq, u2.sq, ?_⟩, fun d hd => ?_⟩
          · rw [RVs.length rs1, RVs.length rs2]
            exact pairs_none hn
          · obtain ⟨x, y, hx, hy, rfl⟩ := pairs_at hd
            obtain ⟨x', hx', rx⟩ := RVs.get rs1 hx
            obtain ⟨y', hy', ry⟩ := RVs.get rs2 hy
            refine ⟨⟨_, _, x', y', u1.sq, u2.sq, hx', hy'⟩, fun z H'' ⟨p, x2, y2, ez, hp, eh, k1, k2⟩ => ?_⟩
            rw [k1 _ u1.sq] at hx'
            rw [k2 _ u2.sq] at hy'
            cases hx'
            cases hy'
            subst ez eh
            exact pair_new hs' hp rx ry
    · split at h2
      · rename_i d0 e0 _ z1 z2 xs0 ys0 hl1 hl2
        obtain ⟨a1, xs1, rfl, hq1, _⟩ := litems_of hs2 r1 hl1
        obtain ⟨a2, ys1, rfl, hq2, _⟩ := litems_of hs2 r2 hl2
        refine ⟨_, _, _, _, rfl, .inl ⟨hq1, hq2, wR.here hs2 h2 ?_⟩⟩
        intro i μ' H' S' ds g hs' e
        simp only at e
        split at e
        · rename_i xs ys hm1 hm2
          cases e
          obtain ⟨_, us, e1, q1, rs1⟩ := litems_of hs' (r1.mono g) hm1
          obtain ⟨_, ws, e2, q2, rs2⟩ := litems_of hs' (r2.mono g) hm2
          cases e1
          cases e2
          refine ⟨fun hn => ⟨_, _, q1, q2, ?_⟩, fun d hd => ?_⟩
          · rw [RVs.length rs1, RVs.length rs2]
            exact pairs_none hn
          · obtain ⟨x, y, hx, hy, rfl⟩ := pairs_at hd
            obtain ⟨x', hx', rx⟩ := RVs.get rs1 hx
            obtain ⟨y', hy', ry⟩ := RVs.get rs2 hy
            refine ⟨⟨_, _, x', y', q1, q2, hx', hy'⟩, fun z H'' ⟨p, x2, y2, ez, hp, eh, k1, k2⟩ => ?_⟩
            rw [k1 _ q1] at hx'
            rw [k2 _ q2] at hy'
            cases hx'
            cases hy'
            subst ez eh
            exact pair_new hs' hp rx ry
        · cases e
      · exact h2.elim⟩⟩
def numbered (i : Nat) : List D → List D
  | [] => []
  | d :: ds => .tup [.int (i : Int), d] :: numbered (i + 1) ds
theorem numbered_at : ∀ {ds : List D} {k i : Nat}, (numbered k ds)[i]? = (ds[i]?).map fun d => .tup [.int ((k + i : Nat) : Int), d]
  | [], _, _ => by simp [numbered]
  | d :: ds, k, 0 => by simp [numbered]
  | d :: ds, k, i + 1 => by
    show (numbered (k + 1) ds)[i]? = _
    rw [numbered_at (ds := ds)]
    simp only [List.getElem?_cons_succ]
    rw [show k + 1 + i = k + (i + 1) by omega]
def iEnumD (a : Den) : IDen := fun ε S => (a ε S).bind fun d S => match litems S d with
  | some _ => .ok (fun S => (litems S d).map (numbered 0)) S
  | none => .bad
theorem pid_enum {e : Expr} {a : Den} {p pos tpos : Pos} {elts : List Expr} {kk : Nat} (hg : Gl X "enumerate") (hm : X.mg "enumerate" = none) (ha : PE X e (tD (gx X T) W a)) (hst : starEach [e] X.env = [(false, eval e X.env)] := by rfl) :
    PI X (.Tuple elts kk tpos) (.Call (.Name "enumerate" p) [e] [] pos) (tIt (gx X T) W (iEnumD a)) :=
  (pi_enum hg hm (pa_cons ha pa_nil hst) hst).imp fun σ H Q ⟨ε, μ, S, sr, hs, h⟩ => ⟨ε, μ, S, sr, hs, (wR.bind (Rl := rlV (gx X T)) sr h).imp fun v H1 ⟨d, μ1, S1, g1, hs1, sr1, r1, h1⟩ => by
    split at h1
    · obtain ⟨a, xs, rfl, hq, rs⟩ := litems_of hs1 r1 ‹_›
      refine ⟨a, xs, rfl, hq, wR.here hs1 h1 ?_⟩
      intro i μ' H' S' ds g hs' e
      obtain ⟨ds0, e0, rfl⟩ := Option.map_eq_some_iff.mp e
      obtain ⟨_, us, e1, q1, rs1⟩ := litems_of hs' (RV.mono g r1) e0
      cases e1
      refine ⟨fun hn => ⟨us, q1, ?_⟩, fun d hd => ?_⟩
      · rw [numbered_at, Option.map_eq_none_iff] at hn
        rw [RVs.length rs1]
        exact List.getElem?_eq_none_iff.mp hn
      · rw [numbered_at] at hd
        obtain ⟨x, hx, rfl⟩ := Option.map_eq_some_iff.mp hd
        obtain ⟨x', hx', rx⟩ := RVs.get rs1 hx
        refine ⟨⟨us, x', q1, hx'⟩, fun z H'' ⟨p, x2, ez, hp, eh, k1⟩ => ?_⟩
        rw [k1 _ q1] at hx'
        cases hx'
        subst ez eh
        have q := pair_new hs' hp (RV.int (K := X.K) (μ := μ') (H := H') (i : Int)) rx
        rw [show (0 + i : Nat) = i by omega]
        exact q
    · exact h1.elim⟩

/-! ### for -/
def forI (src : Src) (g : GDen) (b : SDen) : Nat → Nat → SDen
  | 0, _ => fun _ _ => .bad
  | m + 1, i => fun ε S => match src S with
    | none => .bad
    | some ds => match ds[i]? with
      | none => .ok (.nx ε) S
      | some d => match g d ε S with
        | none => .bad
        | some ε1 => match b ε1 S with
          | .ok (.nx ε') S' => forI src g b m (i + 1) ε' S'
          | .ok (.ct ε') S' => forI src g b m (i + 1) ε' S'
          | .ok (.bk ε') S' => .ok (.nx ε') S'
          | r => r
def sFor (it : IDen) (g : GDen) (b : SDen) : SDen := fun ε S => sE (it ε S) ε fun src S => match src S with
  | some ds => forI src g b (ds.length + 1) 0 ε S
  | none => .bad
theorem psd_for {tg iter : Expr} {body : List Stmt} {it : IDen} {js : List Nat} {g : GDen} {b : SDen} {pos : Pos} (po : PassesOwn (model X.prog X.w) X.A X.env X.xe) (hc : X.calm = true) (hi : PI X tg iter (tIt (gx X T) W it)) (hg : PG X tg (tG (gx X T) js g)) (hb : PSs X body (tS (gx X T) W b))
    (hf : ∀ x, foldedSetIterable iter X.env x = pure x := by intro _; rfl) : PS X (.For tg iter body [] pos) (tS (gx X T) W (sFor it g b)) :=
  (ps_for po hc hi hg hb hf).imp fun N σ H ⟨ε, μ, S, sr, hs, h⟩ => ⟨ε, μ, S, sr, hs, (wS.bind (Rl := rlI (gx X T)) sr h).imp fun J H1 ⟨src, μ1, S1, g1, hs1, sr1, sim, h1⟩ => by
    split at h1
    · rename_i ds0 hds0
      refine ⟨fun i m σ' H' => ∃ ε' μ' S', Gr μ1 H1 μ' H' ∧ SR X.K μ' H' σ' ε' ∧ HS (gx X T) μ' S' H' ∧ wS (gx X T) W (forI src g b m i ε' S') μ' H' N, ⟨_, ε, μ1, S1, Gr.refl, sr1, hs1, h1⟩, ?_⟩
      rintro i m σ2 H2 ⟨ε2, μ2, S2, g2, sr2, hs2, h2⟩
      cases m with
      | zero => exact h2.elim
      | succ m =>
        unfold forI at h2
        split at h2
        · exact h2.elim
        · rename_i ds hds
          obtain ⟨k1, k2⟩ := sim i μ2 H2 S2 ds g2 hs2 hds
          split at h2
          · rename_i hn
            exact .inl ⟨k1 hn, h2 σ2 μ2 H2 Gr.refl hs2 sr2⟩
          · rename_i d hd
            obtain ⟨k3, k4⟩ := k2 d hd
            refine .inr ⟨k3, fun σ' H' => ∃ ε' μ' S', Gr μ1 H1 μ' H' ∧ SR X.K μ' H' σ' ε' ∧ HS (gx X T) μ' S' H' ∧ wS (gx X T) W (forI src g b m (i + 1) ε' S') μ' H' N, fun σ' H' z => ⟨m, Nat.lt_succ_self m, z⟩, fun x H3 hy => ?_⟩
            obtain ⟨g3, hs3, rx⟩ := k4 x H3 hy
            split at h2
            · exact h2.elim
            · rename_i ε1 hε1
              refine ⟨ε2, μ2, S2, d, ε1, sr2.mono g3, hs3, rx, hε1, fun σ4 sr4 _ _ => ⟨ε1, μ2, S2, sr4, hs3, ?_⟩⟩
              have h2 := wS.up g3 h2
              cases e : b ε1 S2 with
              | ok f S' =>
                rw [e] at h2
                cases f with
                | nx ε3 => exact fun σ' μ' H' g hs' sr' => ⟨ε3, μ', S', (g2.trans g3).trans g, sr', hs', wS.up g h2⟩
                | ct ε3 => exact fun σ' μ' H' g hs' sr' => ⟨ε3, μ', S', (g2.trans g3).trans g, sr', hs', wS.up g h2⟩
                | bk ε3 => exact h2
                | rt d => exact h2
                | ex c ε => exact h2
              | exc c S' => rw [e] at h2; exact h2
              | bad => rw [e] at h2; exact h2
    · exact h1.elim⟩
end
end DL

set_option Elab.async false
set_option linter.all false
set_option maxRecDepth 100000
set_option maxHeartbeats 1000000
/-! Comprehensions, methods of lists, the rule for a def. -/
namespace DL
open PySem L2
def wipeE (ε : Env) : List Nat → Env
  | [] => ε
  | v :: vs => (wipeE ε vs).set v none
theorem SR.none {K : PySem.W.Frag} {μ : List Addr} {H : Hp} {σ : L2.St} {ε : Env} (h : SR K μ H σ ε) (i : Nat) : SR K μ H (σ.set i none) (ε.set i none) := by
  refine ⟨by simp [h.1], fun j d q => ?_⟩
  by_cases hj : i = j
  · subst hj
    by_cases hi : i < ε.length
    · rw [List.getElem?_set_self hi] at q
      cases q
    · rw [List.getElem?_eq_none (by simpa using hi)] at q
      cases q
  · rw [List.getElem?_set_ne hj] at q
    obtain ⟨v, e1, r⟩ := h.2 j d q
    exact ⟨v, by rw [List.getElem?_set_ne hj]; exact e1, r⟩
theorem SR.wipe {K : PySem.W.Frag} {μ : List Addr} {H : Hp} {σ : L2.St} {ε : Env} (h : SR K μ H σ ε) : ∀ vs : List Nat, SR K μ H (L2.wipe σ vs) (wipeE ε vs)
  | [] => h
  | v :: vs => (SR.wipe h vs).none v
theorem wipe_in {σ : L2.St} {i : Nat} (hi : i < σ.length) : ∀ {vs : List Nat}, i ∈ vs → (L2.wipe σ vs)[i]? = some none
  | v :: vs, h => by
    unfold L2.wipe
    by_cases e : v = i
    · subst e
      exact List.getElem?_set_self (by rw [wipe_length]; exact hi)
    · rw [List.getElem?_set_ne e]
      exact wipe_in hi ((List.mem_cons.mp h).resolve_left fun q => e q.symm)
theorem wipe_same {σ σ2 : L2.St} {vs js : List Nat} (hj : js.all vs.contains = true) (hl : σ2.length = (L2.wipe σ vs).length) (h : ∀ j, j ∉ js → σ2[j]? = (L2.wipe σ vs)[j]?) : L2.wipe σ2 vs = L2.wipe σ vs := by
  rw [wipe_length] at hl
  apply List.ext_getElem?
  intro i
  by_cases hi : i ∈ vs
  · by_cases hb : i < σ.length
    · rw [wipe_in (by rw [hl]; exact hb) hi, wipe_in hb hi]
    · rw [List.getElem?_eq_none (by rw [wipe_length, hl]; exact Nat.le_of_not_lt hb), List.getElem?_eq_none (by rw [wipe_length]; exact Nat.le_of_not_lt hb)]
  · rw [wipe_out hi, h i fun m => hi (by simpa using (List.all_eq_true.mp hj) i m)]
section
variable {X : Cx} {T : Gt} {W : WX}
abbrev W0 : WX := fun _ _ _ _ => False
def noX {α : Type} : R α → R α
  | .ok a S => .ok a S
  | _ => .bad
def bYes : DenB := fun _ S => .ok true S
theorem ptsd_nil : PTs X [] (tDB (gx X T) W bYes) := pts_nil.imp fun σ H Q ⟨ε, μ, S, sr, hs, h⟩ => wR.here hs h rfl
theorem ptsd_one {c : Expr} {b : DenB} (h : PT X c (tDB (gx X T) W b)) : PTs X [c] (tDB (gx X T) W b) := pts_one h
def lcI (src : Src) (g : GDen) (c : DenB) (e : Den) (vs : List Nat) (ε : Env) : Nat → Nat → List D → Sto → R (List D)
  | 0, _, _, _ => .bad
  | m + 1, i, acc, S => match src S with
    | none => .bad
    | some ds => match ds[i]? with
      | none => .ok acc S
      | some d => match g d (wipeE ε vs) S with
        | none => .bad
        | some ε1 => (noX (c ε1 S)).bind fun k S => if k = true then (noX (e ε1 S)).bind fun x S => (if acc.length < big then lcI src g c e vs ε m (i + 1) (acc ++ [x]) S else .bad) else lcI src g c e vs ε m (i + 1) acc S
def lcEnd (ds : List D) (S : Sto) : R D := .ok (.ref S.length) (S ++ [.lst ds])
def dLc (it : IDen) (g : GDen) (c : DenB) (e : Den) (vs : List Nat) : Den := fun ε S => (it ε S).bind fun src S => match src S with
  | some ds => (lcI src g c e vs ε (ds.length + 1) 0 [] S).bind lcEnd
  | none => .bad
theorem lc_to {it : IDen} {js vs : List Nat} {g : GDen} {c : DenB} {e : Den} (hj : js.all vs.contains = true) :
    ∀ σ H Q, tD (gx X T) W (dLc it g c e vs) σ H Q → tLc (tIt (gx X T) W it) (tG (gx X T) js g) (tDB (gx X T) W0 c) (tD (gx X T) W0 e) vs σ H Q := fun σ H Q ⟨ε, μ, S, sr, hs, h⟩ =>
  ⟨ε, μ, S, sr, hs, (wR.bind (Rl := rlI (gx X T)) sr h).imp fun J H1 ⟨src, μ1, S1, g1, hs1, sr1, sim, h1⟩ Dl hDl => by
    split at h1
    · rename_i ds0 hds0
      refine ⟨fun i m H2 => ∃ μ2 S2 accV acc, Gr μ1 H1 μ2 H2 ∧ HS (gx X T) μ2 S2 H2 ∧ H2 Dl = some (.lst accV) ∧ Dl ∉ μ2 ∧ RVs X.K μ2 H2 accV acc ∧ wR (gx X T) W (rlV (gx X T)) ((lcI src g c e vs ε m i acc S2).bind lcEnd) σ μ1 H1 Q,
        ⟨_, μ1, S1, [], [], Gr.new hDl, hs1.beside hDl, upd_same, hs1.fresh hDl, .nil, h1⟩, ?_⟩
      rintro i m H2 ⟨μ2, S2, accV, acc, g2, hs2, hd2, nd2, racc, h2⟩
      cases m with
      | zero => exact h2.elim
      | succ m =>
        unfold lcI at h2
        split at h2
        · exact h2.elim
        · rename_i ds hds
          obtain ⟨k1, k2⟩ := sim i μ2 H2 S2 ds g2 hs2 hds
          split at h2
          · rename_i hn
            exact .inl ⟨k1 hn, h2 _ _ _ (g2.join hDl) (hs2.join hd2 nd2 racc) (.ref hs2.last)⟩
          · rename_i d hd
            obtain ⟨k3, k4⟩ := k2 d hd
            refine .inr ⟨k3, fun H' => ∃ μ' S' accV' acc', Gr μ1 H1 μ' H' ∧ HS (gx X T) μ' S' H' ∧ H' Dl = some (.lst accV') ∧ Dl ∉ μ' ∧ RVs X.K μ' H' accV' acc' ∧ wR (gx X T) W (rlV (gx X T)) ((lcI src g c e vs ε m (i + 1) acc' S').bind lcEnd) σ μ1 H1 Q,
              fun H' z => ⟨m, Nat.lt_succ_self m, z⟩, fun x H3 hy => ?_⟩
            obtain ⟨g3, hs3, rx⟩ := k4 x H3 hy
            have hd3 := g3.keep _ _ nd2 hd2
            split at h2
            · exact h2.elim
            · rename_i ε1 hε1
              refine ⟨wipeE ε vs, μ2, S2, d, ε1, (sr1.mono (g2.trans g3)).wipe vs, hs3, rx, hε1, fun σ4 sr4 l4 q4 => ⟨wipe_same hj l4 q4, ?_⟩⟩
              refine ⟨ε1, μ2, S2, sr4, hs3, ?_⟩
              cases ec : c ε1 S2 with
              | exc _ _ => rw [ec] at h2; exact h2.elim
              | bad => rw [ec] at h2; exact h2.elim
              | ok k S4 =>
                rw [ec] at h2
                intro b μ4 H4 g4 hs4 eb
                have eb : b = k := eb
                subst eb
                have hd4 := g4.keep _ _ nd2 hd3
                have nd4 := g4.notin hd3 nd2
                have racc4 := (racc.mono g3).mono g4
                cases b with
                | false => exact ⟨μ4, S4, accV, acc, (g2.trans g3).trans g4, hs4, hd4, nd4, racc4, h2⟩
                | true =>
                  refine ⟨ε1, μ4, S4, sr4.mono g4, hs4, ?_⟩
                  cases ee : e ε1 S4 with
                  | exc _ _ =>
                    simp only [noX, R.bind_ok, if_true, ee, R.bind_bad] at h2
                    exact h2.elim
                  | bad =>
                    simp only [noX, R.bind_ok, if_true, ee, R.bind_bad] at h2
                    exact h2.elim
                  | ok y S5 =>
                    simp only [noX, R.bind_ok, if_true, ee] at h2
                    intro v μ5 H5 g5 hs5 rv
                    have hd5 := g5.keep _ _ nd4 hd4
                    have nd5 := g5.notin hd4 nd4
                    split at h2
                    · have racc5 := racc4.mono g5
                      refine ⟨accV, hd5, by rw [RVs.length racc5]; exact big_lt (Nat.le_of_lt ‹_›), μ5, S5, accV ++ [v], acc ++ [y], (((g2.trans g3).trans g4).trans g5).aside hDl, hs5.aside hd5 nd5, upd_same, nd5, ?_, h2⟩
                      exact (racc5.append (.cons rv .nil)).monoI (Gi.aside hd5)
                    · exact h2.elim
    · exact h1.elim⟩
theorem pd_lc {elt tg iter : Expr} {ifs : List Expr} {scope : Scope} {own : List (Str × Nat)} {pos : Pos} {it : IDen} {js : List Nat} {g : GDen} {c : DenB} {e : Den} (hc : X.calm = true) (hN : X.N.Nodup) (hi : PI X tg iter (tIt (gx X T) W it)) (ok : BlkOk X.N X.env.scope scope own)
    (hg : ∀ (s : Shared) (H : Hp) (C : Addr) (cl : List (Str × Addr)) (fp : List Addr), PG (X.blk s H scope (compEnvC scope cl C X.env) fp) tg (tG (gx X T) js g)) (ht : ∀ (s : Shared) (H : Hp) (C : Addr) (cl : List (Str × Addr)) (fp : List Addr), PTs (X.blk s H scope (compEnvC scope cl C X.env) fp) ifs (tDB (gx X T) W0 c))
    (he : ∀ (s : Shared) (H : Hp) (C : Addr) (cl : List (Str × Addr)) (fp : List Addr), PE (X.blk s H scope (compEnvC scope cl C X.env) fp) elt (tD (gx X T) W0 e)) (hj : js.all (own.map (·.2)).contains = true := by rfl) (hs : ∀ x, foldedSetIterable iter X.env x = pure x := by intro _; rfl) :
    PE X (.ListComp elt [⟨tg, iter, ifs, 0⟩] scope pos) (tD (gx X T) W (dLc it g c e (own.map (·.2)))) :=
  (pe_lc hc hN hi ok hg ht he hs).imp (lc_to hj)
theorem psd_setLc (i : Nat) {y : Str} {py : Pos} {elt tg iter : Expr} {ifs : List Expr} {scope : Scope} {own : List (Str × Nat)} {pos spos : Pos} {it : IDen} {js : List Nat} {g : GDen} {c : DenB} {e : Den} (hc : X.calm = true) (hN : X.N.Nodup) (hi : PI X tg iter (tIt (gx X T) W it)) (ok : BlkOk X.N X.env.scope scope own)
    (hg : ∀ (s : Shared) (H : Hp) (C : Addr) (cl : List (Str × Addr)) (fp : List Addr), PG (X.blk s H scope (compEnvC scope cl C X.env) fp) tg (tG (gx X T) js g)) (ht : ∀ (s : Shared) (H : Hp) (C : Addr) (cl : List (Str × Addr)) (fp : List Addr), PTs (X.blk s H scope (compEnvC scope cl C X.env) fp) ifs (tDB (gx X T) W0 c))
    (he : ∀ (s : Shared) (H : Hp) (C : Addr) (cl : List (Str × Addr)) (fp : List Addr), PE (X.blk s H scope (compEnvC scope cl C X.env) fp) elt (tD (gx X T) W0 e))
    (hsw : swapsWith (.ListComp elt [⟨tg, iter, ifs, 0⟩] scope pos) (some (.Name y py)) spos.line X.env = pure true)
    (hy : X.N[i]? = some y := by rfl) (hyl : X.env.scope.names.lookup y = some .local := by rfl) (hj : js.all (own.map (·.2)).contains = true := by rfl) (hs : ∀ x, foldedSetIterable iter X.env x = pure x := by intro _; rfl) :
    PS X (.Assign [.Name y py] (.ListComp elt [⟨tg, iter, ifs, 0⟩] scope pos) spos) (tS (gx X T) W (sAsg (dLc it g c e (own.map (·.2))) (gN i))) :=
  (ps_setLc hc hN hy hyl hsw hi ok hg ht he hs).imp (asg_to (js := [i]) (lc_to hj) fun v σ H Q ⟨ε, μ, S, d, ε', sr, hs', r, e, q⟩ => by
    cases e
    refine q _ (sr.set r i) (by simp) fun j hj => ?_
    rw [List.getElem?_set_ne]
    rintro rfl
    exact hj (by simp))

/-! ### methods of lists -/
def lstAt (S : Sto) : D → Option (Nat × List D)
  | .ref n => match S[n]? with
    | some (.lst ds) => some (n, ds)
    | _ => none
  | _ => none
theorem lstAt_of {G : Gc} {μ : List Addr} {S : Sto} {H : Hp} (hs : HS G μ S H) {v : V} {d : D} {n : Nat} {ds : List D} (r : RV G.K μ H v d) (e : lstAt S d = some (n, ds)) : ∃ a xs, v = .ref a ∧ μ[n]? = some a ∧ H a = some (.lst xs) ∧ RVs G.K μ H xs ds := by
  cases r with
  | ref q =>
    simp only [lstAt] at e
    split at e
    · cases e
      exact hs.lst (RV.ref q) ‹_›
    · cases e
  | _ => cases e
def dAppend (o a : Den) : Den := fun ε S => (o ε S).bind fun l S => match lstAt S l with
  | some _ => (a ε S).bind fun d S => (match lstAt S l with
    | some (n, ds) => if ds.length < big then .ok .non (S.set n (.lst (ds ++ [d]))) else .bad
    | none => .bad)
  | none => .bad
theorem pd_append {o e : Expr} {apos cpos : Pos} {a b : Den} (ha : PE X o (tD (gx X T) W a)) (hb : PE X e (tD (gx X T) W b)) (hst : starEach [e] X.env = (false, eval e X.env) :: starEach [] X.env := by rfl)
    (hbase : attributeBase o "append" X.env (eval o X.env) = eval o X.env := by rfl)
    (hfew : ((backTo cpos (starEach [e] X.env)).all (fun x => !x.1) && (backToKw cpos (keywordEach [] X.env)).all (fun x => x.1.isSome)
      && decide (([e] : List Expr).length + ([] : List Keyword).length + (if ([] : List Keyword).isEmpty then 0 else 1) < 30)) = true := by rfl)
    (hline : (apos.endLine == cpos.line) = true := by rfl) (hplain : (backTo cpos (starEach [] X.env)).any (·.1) = false := by rfl) :
    PE X (.Call (.Attribute o "append" apos) [e] [] cpos) (tD (gx X T) W (dAppend a b)) :=
  (pe_bm PySem.F.plainAttrs_list PySem.F.slot_list_append PySem.F.type_list_append mt_append ha (pa_cons hb pa_nil hst) hbase hfew hline hst hplain).imp fun σ H Q ⟨ε, μ, S, sr, hs, h⟩ => ⟨ε, μ, S, sr, hs, (wR.bind (Rl := rlV (gx X T)) sr h).imp fun v H1 ⟨d, μ1, S1, g1, hs1, sr1, r1, h1⟩ => by
    split at h1
    · rename_i z hz
      obtain ⟨n0, ds0⟩ := z
      obtain ⟨p, xs, rfl, en, hp, rs⟩ := lstAt_of hs1 r1 hz
      refine ⟨.inl ⟨rfl, xs, .inl (.inl hp)⟩, ε, μ1, S1, sr1, hs1, (wR.bind (Rl := rlV (gx X T)) sr1 h1).imp fun w H2 ⟨e, μ2, S2, g2, hs2, sr2, r2, h2⟩ => ?_⟩
      split at h2
      · rename_i n ds hz2
        split at h2
        · obtain ⟨p2, xs2, e2, en2, hp2, rs2⟩ := lstAt_of hs2 (RV.mono g2 r1) hz2
          cases e2
          have g3 : Gr μ2 H2 μ2 (upd H2 p (.lst (xs2 ++ [w]))) := Gr.write (List.mem_of_getElem? en2)
          exact ⟨p, xs2, w, rfl, rfl, hp2, by rw [RVs.length rs2]; exact big_lt (Nat.le_of_lt ‹_›), h2 _ _ _ g3 (hs2.put en2 ⟨_, upd_same, (RVs.append rs2 (.cons r2 .nil)).mono g3⟩) .non⟩
        · exact h2.elim
      · exact h2.elim
    · exact h1.elim⟩
def dExtend (o a : Den) : Den := fun ε S => (o ε S).bind fun l S => match lstAt S l with
  | some _ => (a ε S).bind fun d S => (match lstAt S l, lstAt S d with
    | some (n, ds), some (_, es) => if ds.length + es.length ≤ big then .ok .non (S.set n (.lst (ds ++ es))) else .bad
    | _, _ => .bad)
  | none => .bad
theorem pd_extend {o e : Expr} {apos cpos : Pos} {a b : Den} (ha : PE X o (tD (gx X T) W a)) (hb : PE X e (tD (gx X T) W b)) (hst : starEach [e] X.env = (false, eval e X.env) :: starEach [] X.env := by rfl)
    (hbase : attributeBase o "extend" X.env (eval o X.env) = eval o X.env := by rfl)
    (hfew : ((backTo cpos (starEach [e] X.env)).all (fun x => !x.1) && (backToKw cpos (keywordEach [] X.env)).all (fun x => x.1.isSome)
      && decide (([e] : List Expr).length + ([] : List Keyword).length + (if ([] : List Keyword).isEmpty then 0 else 1) < 30)) = true := by rfl)
    (hline : (apos.endLine == cpos.line) = true := by rfl) (hplain : (backTo cpos (starEach [] X.env)).any (·.1) = false := by rfl) :
    PE X (.Call (.Attribute o "extend" apos) [e] [] cpos) (tD (gx X T) W (dExtend a b)) :=
  (pe_bm PySem.F.plainAttrs_list PySem.F.slot_list_extend PySem.F.type_list_extend mt_extend ha (pa_cons hb pa_nil hst) hbase hfew hline hst hplain).imp fun σ H Q ⟨ε, μ, S, sr, hs, h⟩ => ⟨ε, μ, S, sr, hs, (wR.bind (Rl := rlV (gx X T)) sr h).imp fun v H1 ⟨d, μ1, S1, g1, hs1, sr1, r1, h1⟩ => by
    split at h1
    · rename_i z hz
      obtain ⟨n0, ds0⟩ := z
      obtain ⟨p, xs, rfl, en, hp, rs⟩ := lstAt_of hs1 r1 hz
      refine ⟨.inl ⟨rfl, xs, .inl (.inl hp)⟩, ε, μ1, S1, sr1, hs1, (wR.bind (Rl := rlV (gx X T)) sr1 h1).imp fun w H2 ⟨e, μ2, S2, g2, hs2, sr2, r2, h2⟩ => ?_⟩
      split at h2
      · rename_i n ds m es hz2 hz3
        split at h2
        · obtain ⟨p2, xs2, e2, en2, hp2, rs2⟩ := lstAt_of hs2 (RV.mono g2 r1) hz2
          cases e2
          obtain ⟨p3, xs3, rfl, en3, hp3, rs3⟩ := lstAt_of hs2 r2 hz3
          have g3 : Gr μ2 H2 μ2 (upd H2 p (.lst (xs2 ++ xs3))) := Gr.write (List.mem_of_getElem? en2)
          exact ⟨p, p3, xs2, xs3, rfl, rfl, hp2, hp3, by rw [RVs.length rs2, RVs.length rs3]; exact big_ok ‹_›, h2 _ _ _ g3 (hs2.put en2 ⟨_, upd_same, (RVs.append rs2 rs3).mono g3⟩) .non⟩
        · exact h2.elim
      · exact h2.elim
    · exact h1.elim⟩
end

/-! ### a def -/
def runFn (np nN : Nat) (b : SDen) : Fn := fun ds S => if ds.length = np then (match b (ds.map some ++ List.replicate (nN - np) none) S with
  | .ok (.nx _) S' => .ok .non S'
  | .ok (.rt d) S' => .ok d S'
  | .ok (.ex c _) S' => .exc c S'
  | _ => .bad) else .bad
theorem sr_start {K : PySem.W.Frag} {μ : List Addr} {H : Hp} : ∀ {vs : List V} {ds : List D}, RVs K μ H vs ds → ∀ n : Nat, SR K μ H (vs.map some ++ List.replicate n none) (ds.map some ++ List.replicate n none)
  | vs, ds, r, n => by
    refine ⟨by simp [r.length], fun i d e => ?_⟩
    by_cases hi : i < ds.length
    · rw [List.getElem?_append_left (by simpa using hi), List.getElem?_map] at e
      cases q : ds[i]? with
      | none => rw [q] at e; cases e
      | some d' =>
        rw [q] at e
        cases e
        obtain ⟨v, h1, h2⟩ := r.get q
        exact ⟨v, by rw [List.getElem?_append_left (by rw [List.length_map, r.length]; exact hi), List.getElem?_map, h1]; rfl, h2⟩
    · rw [List.getElem?_append_right (by simpa using Nat.le_of_not_lt hi)] at e
      by_cases hj : i - (ds.map some).length < n
      · rw [List.getElem?_replicate, if_pos hj] at e
        cases e
      · rw [List.getElem?_replicate, if_neg hj] at e
        cases e
theorem fn_ok {P : Program} {w : World} {K : PySem.W.Frag} {mg : Str → Option Value} {base : Heap} {T : Gt} {x qual : Str} {st : Stmt} {f : Addr} {fd : FuncData} {N ps : List Str} {k np : Nat} {b : SDen} (F : Fun K x qual st f fd) (Sc : FnScope N ps (defScope st)) (hl : ps.length = np)
    (body : ∀ (cdv : Value) (A : Around) (outer : List PySem.Env) (s : Shared) (H : Hp) (E : XK), Room k (A.deeper (PyProof.Rows.envOfC qual (defScope st) s.heap.objs.size f cdv)) →
      PSs (cxOf (L2.CX P w) P w K mg base N qual (defScope st) f cdv A outer s H E) (defBody st) (tS ⟨K, T.cA, T.xA⟩ (fun cls d _ H => E cls d H) b)) :
    FnOk P w K mg base (L2.CX P w) (k + 1) f fd ps (spD ⟨K, T.cA, T.xA⟩ np (runFn np N.length b)) := by
  refine F.okX Sc (fun vs H Q E ⟨_, _, _, h, _⟩ => h.trans hl.symm) fun cdv A outer s H vs Q E hr ⟨μ, S, ds, hv, hs, rs, h⟩ => ?_
  refine ⟨_, body cdv A outer s H E hr, ds.map some ++ List.replicate (N.length - np) none, μ, S, ?_, hs, ?_⟩
  · show SR K μ H (vs.map some ++ List.replicate (N.length - vs.length) none) _
    rw [hv]
    exact sr_start rs _
  · unfold runFn at h
    rw [if_pos (by rw [← RVs.length rs]; exact hv)] at h
    cases e : b (ds.map some ++ List.replicate (N.length - np) none) S with
    | ok fl S' =>
      rw [e] at h
      cases fl with
      | nx ε => exact fun σ' μ' H' g hs' _ => h _ _ _ g hs' .non
      | rt d => exact fun v μ' H' g hs' r => h _ _ _ g hs' r
      | bk ε => exact h.elim
      | ct ε => exact h.elim
      | ex c ε => exact fun C σ' μ' H' hx g hs' _ => h C μ' H' hx g hs'
    | exc c S' => rw [e] at h; exact h.elim
    | bad => rw [e] at h; exact h.elim
/-- nothing is promised of a def that is not to be called -/
theorem fn_zero {P : Program} {w : World} {K : PySem.W.Frag} {mg : Str → Option Value} {base : Heap} {G : Gc} {f : Addr} {fd : FuncData} {ps : List Str} {np : Nat} : FnOk P w K mg base (L2.CX P w) 0 f fd ps (spD G np fun _ _ => .bad) :=
  ⟨fun vs H Q E ⟨_, _, _, _, _, _, h⟩ => h.elim, fun A outer s H args us vs Q E _ _ _ _ ⟨_, _, _, _, _, _, h⟩ => h.elim⟩
end DL

set_option Elab.async false
set_option linter.all false
set_option maxRecDepth 100000
set_option maxHeartbeats 1000000
/-! dict(zip(x, y)) over what is walked by any two iterators. -/
namespace DZ
open PySem
open Sem (wp)
section
variable {prog : Program} {w : World} {A : Around} {E : Value → Shared → Prop} {s : Shared} {z TI TO i1 i2 T : Addr} {fp1 fp2 : List Addr} {n1 n2 i : Nat} {P1 P2 : Nat → Value → Prop} {St1 St2 : Nat → Heap → Prop} {a1 a2 : Value} {f : Bool} {oT : Obj}
theorem next_item_held {Q : Value → Shared → Prop} (S : ZipSep2 z TI TO i1 i2 fp1 fp2) (D1 : Draws prog w A i1 fp1 n1 P1 St1) (D2 : Draws prog w A i2 fp2 n2 P2 St2)
    (hz : IsZipHeld s.heap z TI TO T f) (hT : s.heap.get? T = some oT) (hTI : IsTupOf2 s.heap TI (.ref i1) (.ref i2)) (st1 : St1 i s.heap) (st2 : St2 i s.heap) (hlt1 : i < n1) (hlt2 : i < n2)
    (hQ : ∀ x1 x2 h' tk, P1 i x1 → P2 i x2 → IsZipHeld h' z TI TO T true → St1 (i + 1) h' → St2 (i + 1) h' → IsTupOf2 h' s.heap.objs.size x1 x2 → h'.objs.size = s.heap.objs.size + 1 →
      (∀ c o, c ≠ z → c ≠ i1 → c ≠ i2 → s.heap.get? c = some o → h'.get? c = some o) → Q (.ref s.heap.objs.size) { s with heap := h', toks := tk }) :
    wpAny (model prog w) A (Builtin.«zip.__next__» ⟨[.ref z], []⟩) (fun fin s' => ∃ v, fin = .done (.ret v) ∧ Q v s') E s := by
  obtain ⟨hp, g, d, tk0, os⟩ := s
  show wpAny _ _ (field (.ref z) 2 >>= _) _ _ _
  refine wpAny_bind (wpAny_field hz rfl (x := .bool false) rfl ?_)
  show wpAny _ _ (field (.ref z) 3 >>= _) _ _ _
  refine wpAny_bind (wpAny_field hz rfl (x := .ref TI) rfl ?_)
  refine wpAny_bind (wpAny_seqItems hTI rfl ?_)
  show wpAny _ _ (Builtin.SmallTypes.ownedTupleIsFree (.ref z) >>= _) _ _ _
  refine wpAny_bind (wpAny_tupleHeld_zip hz hT fun h₁ hz₁ hs₁ => ?_)
  replace hs₁ : Heap.SameBut z hp h₁ := hs₁
  simp only [Bool.false_eq_true, if_false]
  refine wpAny_bind ?_
  rw [← Array.forIn_toList]
  simp only [List.forIn_cons, List.forIn_nil]
  refine wpAny_bind (wpAny_bind (wpAny_holding ?_))
  show wpAny _ _ (Builtin.SmallTypes.nextOf (.ref i1) >>= _) _ _ ⟨h₁, g, d, tk0, os⟩
  refine wpAny_bind (D1.item i ⟨h₁, g, d, tk0, os⟩ _ _ hlt1 (D1.over st1 hs₁ S.zf1) fun x1 p1 tk1 hx1 sn1 hp1 => wpAny_pure ?_)
  replace hp1 : Heap.SameBut i1 h₁ p1 := hp1
  refine wpAny_pure ?_
  refine wpAny_bind (wpAny_bind (wpAny_holding ?_))
  show wpAny _ _ (Builtin.SmallTypes.nextOf (.ref i2) >>= _) _ _ ⟨p1, g, d, tk1, os⟩
  refine wpAny_bind (D2.item i ⟨p1, g, d, tk1, os⟩ _ _ hlt2 (D2.over (D2.over st2 hs₁ S.zf2) hp1 S.sep1_2) fun x2 p2 tk2 hx2 sn2 hp2 => wpAny_pure ?_)
  replace hp2 : Heap.SameBut i2 p1 p2 := hp2
  refine wpAny_pure (wpAny_pure ?_)
  show wpAny _ _ (newTuple [x1, x2] >>= _) _ _ ⟨p2, g, d, tk2, os⟩
  refine wpAny_bind (wpAny_newTuple ?_)
  have hsz : p2.objs.size = hp.objs.size := by rw [hp2.1, hp1.1, hs₁.1]
  have hz₃ : IsZipHeld p2 z TI TO T true := hp2.extBut _ _ S.zi2 (hp1.extBut _ _ S.zi1 hz₁)
  have hk : ∀ c o, c ≠ z → c ≠ i1 → c ≠ i2 → hp.get? c = some o → p2.get? c = some o := fun c o c1 c2 c3 e => hp2.extBut _ _ c3 (hp1.extBut _ _ c2 (hs₁.extBut _ _ c1 e))
  have hj1 : St1 (i + 1) p2 := D1.over sn1 hp2 S.sep2_1
  refine wpAny_pure ⟨_, rfl, ?_⟩
  show Q (.ref p2.objs.size) _
  have hpp : IsTupOf2 (p2.push { cls := .type "tuple", data := .seq #[x1, x2] }) p2.objs.size x1 x2 := Heap.get?_push_size _ rfl
  have hz4 : (p2.push { cls := .type "tuple", data := .seq #[x1, x2] }).objs.size = p2.objs.size + 1 := Heap.size_push ..
  rw [hsz] at hpp hz4 ⊢
  exact hQ x1 x2 _ tk2 hx1 hx2 (Heap.get?_push_of_some _ hz₃) (D1.frame _ _ _ hj1 fun b _ o e => Heap.get?_push_of_some _ e) (D2.frame _ _ _ sn2 fun b _ o e => Heap.get?_push_of_some _ e) hpp hz4 fun c o c1 c2 c3 e => Heap.get?_push_of_some _ (hk c o c1 c2 c3 e)
theorem next_end_held {Q : Fin → Shared → Prop} (S : ZipSep2 z TI TO i1 i2 fp1 fp2) (D1 : Draws prog w A i1 fp1 n1 P1 St1) (D2 : Draws prog w A i2 fp2 n2 P2 St2)
    (hz : IsZipHeld s.heap z TI TO T f) (hT : s.heap.get? T = some oT) (hTI : IsTupOf2 s.heap TI (.ref i1) (.ref i2)) (st1 : St1 i s.heap) (st2 : St2 i s.heap) (hle1 : i ≤ n1) (hle2 : i ≤ n2) (hend : i = n1 ∨ i = n2)
    (hE : ∀ h' tk e, (∀ c o, c ≠ z → c ≠ i1 → c ≠ i2 → s.heap.get? c = some o → h'.get? c = some o) → (∃ o, h'.get? e = some o ∧ o.cls = .type "StopIteration") → E (.ref e) { s with heap := h', toks := tk }) :
    wpAny (model prog w) A (Builtin.«zip.__next__» ⟨[.ref z], []⟩) Q E s := by
  obtain ⟨hp, g, d, tk0, os⟩ := s
  show wpAny _ _ (field (.ref z) 2 >>= _) _ _ _
  refine wpAny_bind (wpAny_field hz rfl (x := .bool false) rfl ?_)
  show wpAny _ _ (field (.ref z) 3 >>= _) _ _ _
  refine wpAny_bind (wpAny_field hz rfl (x := .ref TI) rfl ?_)
  refine wpAny_bind (wpAny_seqItems hTI rfl ?_)
  show wpAny _ _ (Builtin.SmallTypes.ownedTupleIsFree (.ref z) >>= _) _ _ _
  refine wpAny_bind (wpAny_tupleHeld_zip hz hT fun h₁ hz₁ hs₁ => ?_)
  replace hs₁ : Heap.SameBut z hp h₁ := hs₁
  simp only [Bool.false_eq_true, if_false]
  refine wpAny_bind ?_
  rw [← Array.forIn_toList]
  simp only [List.forIn_cons, List.forIn_nil]
  refine wpAny_bind (wpAny_bind (wpAny_holding ?_))
  show wpAny _ _ (Builtin.SmallTypes.nextOf (.ref i1) >>= _) _ _ ⟨h₁, g, d, tk0, os⟩
  by_cases hlt1 : i < n1
  · have hi2 : i = n2 := by omega
    refine wpAny_bind (D1.item i ⟨h₁, g, d, tk0, os⟩ _ _ hlt1 (D1.over st1 hs₁ S.zf1) fun x1 p1 tk1 hx1 sn1 hp1 => wpAny_pure ?_)
    replace hp1 : Heap.SameBut i1 h₁ p1 := hp1
    refine wpAny_pure ?_
    refine wpAny_bind (wpAny_bind (wpAny_holding ?_))
    show wpAny _ _ (Builtin.SmallTypes.nextOf (.ref i2) >>= _) _ _ ⟨p1, g, d, tk1, os⟩
    refine wpAny_bind (D2.done ⟨p1, g, d, tk1, os⟩ _ _ (by rw [← hi2]; exact D2.over (D2.over st2 hs₁ S.zf2) hp1 S.sep1_2) fun q e hq he => ?_)
    replace hq : Heap.ExtBut i2 p1 q := hq
    exact hE q tk1 e (fun c o c1 c2 c3 x => hq _ _ c3 (hp1.extBut _ _ c2 (hs₁.extBut _ _ c1 x))) he
  · have hi1 : i = n1 := by omega
    refine wpAny_bind (D1.done ⟨h₁, g, d, tk0, os⟩ _ _ (by rw [← hi1]; exact D1.over st1 hs₁ S.zf1) fun q e hq he => ?_)
    replace hq : Heap.ExtBut i1 h₁ q := hq
    exact hE q tk0 e (fun c o c1 c2 c3 x => hq _ _ c2 (hs₁.extBut _ _ c1 x)) he
theorem pyNext_item_held {Q : Option Value → Shared → Prop} (S : ZipSep2 z TI TO i1 i2 fp1 fp2) (D1 : Draws prog w A.in1 i1 fp1 n1 P1 St1) (D2 : Draws prog w A.in1 i2 fp2 n2 P2 St2)
    (hz : IsZipHeld s.heap z TI TO T f) (hT : s.heap.get? T = some oT) (hTI : IsTupOf2 s.heap TI (.ref i1) (.ref i2)) (st1 : St1 i s.heap) (st2 : St2 i s.heap) (hlt1 : i < n1) (hlt2 : i < n2)
    (hQ : ∀ x1 x2 h' tk, P1 i x1 → P2 i x2 → IsZipHeld h' z TI TO T true → St1 (i + 1) h' → St2 (i + 1) h' → IsTupOf2 h' s.heap.objs.size x1 x2 → h'.objs.size = s.heap.objs.size + 1 →
      (∀ c o, c ≠ z → c ≠ i1 → c ≠ i2 → s.heap.get? c = some o → h'.get? c = some o) → Q (some (.ref s.heap.objs.size)) { s with heap := h', toks := tk }) :
    wpAny (model prog w) A (pyNext (.ref z)) Q E s := by
  have hTy : s.TypeIs (.ref z) "zip" := ⟨_, hz, rfl⟩
  unfold pyNext
  exact wpAny_bind (wpAny_attempt (wpAny_callSpecial?_slot (name := Str.ofString "__next__") hTy F.slot_zip_next
    (wpAny_call_entry F.slot_zip_next hTy F.entry_zip_next
      (next_item_held S D1 D2 hz hT hTI st1 st2 hlt1 hlt2 fun x1 x2 h' tk y1 y2 b1 d1 d2 b5 b6 b7 => wpAny_pure (hQ x1 x2 h' tk y1 y2 b1 d1 d2 b5 b6 b7)) (F.args_zip_next_1 _))))
theorem pyNext_end_held {Q : Option Value → Shared → Prop} (S : ZipSep2 z TI TO i1 i2 fp1 fp2) (D1 : Draws prog w A.in1 i1 fp1 n1 P1 St1) (D2 : Draws prog w A.in1 i2 fp2 n2 P2 St2)
    (hz : IsZipHeld s.heap z TI TO T f) (hT : s.heap.get? T = some oT) (hTI : IsTupOf2 s.heap TI (.ref i1) (.ref i2)) (st1 : St1 i s.heap) (st2 : St2 i s.heap) (hle1 : i ≤ n1) (hle2 : i ≤ n2) (hend : i = n1 ∨ i = n2)
    (hQ : ∀ h' tk, (∀ c o, c ≠ z → c ≠ i1 → c ≠ i2 → s.heap.get? c = some o → h'.get? c = some o) → Q none { s with heap := h', toks := tk }) : wpAny (model prog w) A (pyNext (.ref z)) Q E s := by
  have hTy : s.TypeIs (.ref z) "zip" := ⟨_, hz, rfl⟩
  unfold pyNext
  refine wpAny_bind (wpAny_attempt (wpAny_callSpecial?_slot (name := Str.ofString "__next__") hTy F.slot_zip_next
    (wpAny_call_entry F.slot_zip_next hTy F.entry_zip_next (next_end_held S D1 D2 hz hT hTI st1 st2 hle1 hle2 hend fun h' tk e hk he => ?_) (F.args_zip_next_1 _))))
  obtain ⟨o, ho, hc⟩ := he
  refine wpAny_bind (wpAny_isInstance (T := "StopIteration") (b := true) ⟨o, ho, hc⟩ isSubtype_stop ?_)
  exact wpAny_pure (hQ _ _ hk)
end
/-- a zip as dict's argument -/
theorem pairArg {prog : Program} {w : World} (z TI TO i1 i2 : Addr) (fp1 fp2 : List Addr) {n1 n2 : Nat} {P1 P2 : Nat → Value → Prop} {St1 St2 : Nat → Heap → Prop} (S : ZipSep2 z TI TO i1 i2 fp1 fp2)
    (D1 : ∀ A : Around, A.handled = none → Draws prog w A i1 fp1 n1 P1 St1) (D2 : ∀ A : Around, A.handled = none → Draws prog w A i2 fp2 n2 P2 St2)
    (L1 : ∀ i h, St1 i h → ∀ b ∈ fp1, ∃ o, h.get? b = some o) (L2 : ∀ i h, St2 i h → ∀ b ∈ fp2, ∃ o, h.get? b = some o)
    (A0 : Around) (hA0 : A0.handled = none) :
    PairArg prog w "zip" z (z :: TI :: TO :: (fp1 ++ fp2)) [z, TO, i1, i2] (min n1 n2) (fun i k v => P1 i k ∧ P2 i v)
      (fun h => IsZip h z TI TO .none ∧ IsTupOf2 h TI (.ref i1) (.ref i2) ∧ (∃ a b, IsTupOf2 h TO a b) ∧ St1 0 h ∧ St2 0 h) where
  type := fun s ok => ⟨_, ok.1, rfl⟩
  notDict := by decide
  keep := fun h h' ok hk => by
    obtain ⟨hz, hTI, ⟨a, b, hTO⟩, h1, h2⟩ := ok
    exact ⟨hk _ _ hz, hk _ _ hTI, ⟨a, b, hk _ _ hTO⟩, (D1 A0 hA0).frame _ _ _ h1 fun b _ o e => hk b o e, (D2 A0 hA0).frame _ _ _ h2 fun b _ o e => hk b o e⟩
  there := fun h ok b hb => by
    obtain ⟨hz, hTI, ⟨a, c, hTO⟩, h1, h2⟩ := ok
    rcases List.mem_cons.mp hb with rfl | hb
    · exact ⟨_, hz⟩
    rcases List.mem_cons.mp hb with rfl | hb
    · exact ⟨_, hTI⟩
    rcases List.mem_cons.mp hb with rfl | hb
    · exact ⟨_, hTO⟩
    rcases List.mem_append.mp hb with hb | hb
    · exact L1 _ _ h1 b hb
    · exact L2 _ _ h2 b hb
  sub := fun b hb => by
    have hc' : b = z ∨ b = TO ∨ b = i1 ∨ b = i2 := by simpa using hb
    rcases hc' with rfl | rfl | rfl | rfl
    · exact List.mem_cons_self ..
    · exact List.mem_cons_of_mem _ (List.mem_cons_of_mem _ (List.mem_cons_self ..))
    · exact List.mem_cons_of_mem _ (List.mem_cons_of_mem _ (List.mem_cons_of_mem _ (List.mem_append_left _ S.mem1)))
    · exact List.mem_cons_of_mem _ (List.mem_cons_of_mem _ (List.mem_cons_of_mem _ (List.mem_append_right _ S.mem2)))
  noKeys := fun A s Q E hA ok h => getAttrOr_miss_zip ok.1 rfl rfl rfl zip_no_keys (by decide +kernel) hA h
  iter := fun A s d Q E hA ok hd hdf h => by
    obtain ⟨hz, hTI, ⟨a, b, hTO⟩, h1, h2⟩ := ok
    have dz : d ≠ z := fun e => hdf (by rw [e]; exact List.mem_cons_self ..)
    have dTI : d ≠ TI := fun e => hdf (by rw [e]; exact List.mem_cons_of_mem _ (List.mem_cons_self ..))
    have dTO : d ≠ TO := fun e => hdf (by rw [e]; exact List.mem_cons_of_mem _ (List.mem_cons_of_mem _ (List.mem_cons_self ..)))
    have df1 : d ∉ fp1 := fun e => hdf (List.mem_cons_of_mem _ (List.mem_cons_of_mem _ (List.mem_cons_of_mem _ (List.mem_append_left _ e))))
    have df2 : d ∉ fp2 := fun e => hdf (List.mem_cons_of_mem _ (List.mem_cons_of_mem _ (List.mem_cons_of_mem _ (List.mem_append_right _ e))))
    have di1 : d ≠ i1 := fun e => df1 (by rw [e]; exact S.mem1)
    have di2 : d ≠ i2 := fun e => df2 (by rw [e]; exact S.mem2)
    have hA1 : A.in1.handled = none := hA
    refine wpAny_pyIter_zip hz (h z [z, TO, i1, i2] (fun i h => IsTupOf2 h TI (.ref i1) (.ref i2) ∧ St1 i h ∧ St2 i h ∧
      ((IsZip h z TI TO .none ∧ ∃ a b, IsTupOf2 h TO a b) ∨ ∃ T f oT, IsZipHeld h z TI TO T f ∧ h.get? T = some oT ∧ T ≠ z ∧ T ≠ i1 ∧ T ≠ i2 ∧ T ≠ d)) s.heap s.toks ?_
      ⟨hTI, h1, h2, .inl ⟨hz, a, b, hTO⟩⟩ (fun _ _ e => e) fun b hb => .inl hb)
    exact {
      off := fun hm => by
        simp only [List.mem_cons, List.not_mem_nil, or_false] at hm
        rcases hm with e | e | e | e
        · exact dz e
        · exact dTO e
        · exact di1 e
        · exact di2 e
      frame := fun i h₁ h₂ st hk => by
        obtain ⟨hTI, h1, h2, hz⟩ := st
        refine ⟨hk _ _ (Ne.symm dTI) hTI, (D1 A hA).frame _ _ _ h1 fun b hb o e => hk b o (fun q => df1 (q ▸ hb)) e, (D2 A hA).frame _ _ _ h2 fun b hb o e => hk b o (fun q => df2 (q ▸ hb)) e, ?_⟩
        rcases hz with ⟨hz, a, b, hTO⟩ | ⟨T, f, oT, hz, hT, r1, r2, r3, r4⟩
        · exact .inl ⟨hk _ _ (Ne.symm dz) hz, a, b, hk _ _ (Ne.symm dTO) hTO⟩
        · exact .inr ⟨T, f, oT, hk _ _ (Ne.symm dz) hz, hk _ _ r4 hT, r1, r2, r3, r4⟩
      item := fun i s₁ Q₁ E₁ hi st hds hQ => by
        obtain ⟨hTI, h1, h2, hz⟩ := st
        have hix : i < n1 := Nat.lt_of_lt_of_le hi (Nat.min_le_left ..)
        have hiy : i < n2 := Nat.lt_of_lt_of_le hi (Nat.min_le_right ..)
        have lt : ∀ {c o}, s₁.heap.get? c = some o → s₁.heap.objs.size ≠ c := fun e => Nat.ne_of_gt (Heap.lt_size e)
        have m1 : s₁.heap.objs.size ≠ i1 := by obtain ⟨_, e⟩ := (D1 A hA).live _ _ h1; exact lt e
        have m2 : s₁.heap.objs.size ≠ i2 := by obtain ⟨_, e⟩ := (D2 A hA).live _ _ h2; exact lt e
        rcases hz with ⟨hz, a, b, hTO⟩ | ⟨T, f, oT, hz, hT, r1, r2, r3, r4⟩
        · refine wpAny_pyNext_zipD2_item S (D1 _ hA1) (D2 _ hA1) hz hTI hTO h1 h2 hix hiy fun x1 x2 h' tk y1 y2 b1 b2 d1 d2 b5 b6 hk => ?_
          exact hQ s₁.heap.objs.size _ _ h' tk ⟨y1, y2⟩ (.inl ⟨_, b5, rfl, _, rfl⟩)
            ⟨hk _ _ S.TIz S.TITO S.TIi1 S.TIi2 hTI, d1, d2, .inr ⟨s₁.heap.objs.size, false, _, b1, b5, lt hz, m1, m2, Nat.ne_of_gt hds⟩⟩
            fun c o hc e => hk c o (fun x => hc (by simp [x])) (fun x => hc (by simp [x])) (fun x => hc (by simp [x])) (fun x => hc (by simp [x])) e
        · refine pyNext_item_held S (D1 _ hA1) (D2 _ hA1) hz hT hTI h1 h2 hix hiy fun x1 x2 h' tk y1 y2 b1 d1 d2 b5 b6 hk => ?_
          exact hQ s₁.heap.objs.size _ _ h' tk ⟨y1, y2⟩ (.inl ⟨_, b5, rfl, _, rfl⟩)
            ⟨hk _ _ S.TIz S.TIi1 S.TIi2 hTI, d1, d2, .inr ⟨T, true, oT, b1, hk _ _ r1 r2 r3 hT, r1, r2, r3, r4⟩⟩
            fun c o hc e => hk c o (fun x => hc (by simp [x])) (fun x => hc (by simp [x])) (fun x => hc (by simp [x])) e
      done := fun s₁ Q₁ E₁ st hQ => by
        obtain ⟨hTI, h1, h2, hz⟩ := st
        rcases hz with ⟨hz, a, b, hTO⟩ | ⟨T, f, oT, hz, hT, r1, r2, r3, r4⟩
        · exact wpAny_pyNext_zipD2_end S (D1 _ hA1) (D2 _ hA1) hz hTI hTO h1 h2 (by omega) (by omega) (by omega) fun h' tk hk => hQ h' tk fun c o hc e => hk c o (fun x => hc (by simp [x])) (fun x => hc (by simp [x])) (fun x => hc (by simp [x])) (fun x => hc (by simp [x])) e
        · exact pyNext_end_held S (D1 _ hA1) (D2 _ hA1) hz hT hTI h1 h2 (by omega) (by omega) (by omega) fun h' tk hk => hQ h' tk fun c o hc e => hk c o (fun x => hc (by simp [x])) (fun x => hc (by simp [x])) (fun x => hc (by simp [x])) e }
end DZ

set_option Elab.async false
set_option linter.all false
set_option maxRecDepth 100000
set_option maxHeartbeats 1000000
namespace L2
open PySem PySem.Spec PyProof.Rows
/-- what is walked, by values -/
def Wk (K : PySem.W.Frag) (H : Hp) (x : V) (xs : List V) : Prop := (∃ z : Str, x = .str z ∧ xs = z.cps.toList.map fun c => V.str ⟨#[c]⟩) ∨ (∃ a, x = .ref a ∧ SqT K H a xs) ∨ ∃ a, x = .ref a ∧ SqL K H a xs
def tDictZip (K : PySem.W.Frag) (ta : TA) : TE := fun σ H Q => ta σ H fun vs H1 => ∃ (x : V) (b : Addr) (xs ys : List V) (kvs : List (Key × V)), vs = [x, .ref b] ∧ Wk K H1 x xs ∧ (SqT K H1 b ys ∨ SqL K H1 b ys) ∧
  xs.take (min xs.length ys.length) = kvs.map (fun kv => kV kv.1) ∧ ys.take (min xs.length ys.length) = kvs.map (·.2) ∧ kvs.length ≤ sizeLine ∧ ∀ p, H1 p = none → Q (.ref p) (upd H1 p (.dK (mergeK [] kvs)))
/-- an iterator's beginning, its draws -/
structure Begun (X : Cx) (s : Shared) (v : Value) (xs : List V) (P : Nat → Value → Prop) (St : Addr → Nat → Heap → Prop) (fp : List Addr) : Prop where
  b : ∃ o Hh, Begins v o Hh ∧ Hh s.heap ∧ ∀ it h, h.get? it = some o → (∀ c u, s.heap.get? c = some u → h.get? c = some u) → St it 0 h
  d : ∀ (A : Around), A.handled = none → ∀ it, s.heap.objs.size ≤ it → Draws X.prog X.w A it (it :: fp) xs.length P (St it)
  lt : ∀ c ∈ fp, c < s.heap.objs.size
  live : ∀ it i h, St it i h → ∀ c ∈ it :: fp, ∃ o, h.get? c = some o
  rel : ∀ i u, P i u → ∃ x, xs[i]? = some x ∧ RelV x u
section
variable {X : Cx} {pins : List (Addr × Obj)} {σ : St} {H : Hp} {s : Shared} {a : Addr}
theorem begun_tup {xs : List V} {its : List Value} (rv : Vals xs its) (h : IsTup s.heap a its.toArray) :
    Begun X s (.ref a) xs (fun i u => its[i]? = some u) (fun it i h => h.IsTupleIter it a i ∧ h.IsTuple a its.toArray) [a] where
  b := ⟨_, _, begins_tuple a its.toArray, h, fun it h' e k => ⟨⟨_, e, rfl, rfl⟩, (show s.heap.IsTuple a its.toArray from h).at fun o e => k a o e⟩⟩
  d := fun A hA it hi => by
    have := Draws.tuple (prog := X.prog) (w := X.w) hA it a (Nat.ne_of_lt (Nat.lt_of_lt_of_le h.lt hi)) its.toArray
    simpa [rv.length] using this
  lt := fun c hc => by rw [List.mem_singleton.mp hc]; exact h.lt
  live := fun it i h' st c hc => by
    obtain ⟨⟨o, ho, _⟩, o2, ho2, _⟩ := st
    rcases List.mem_cons.mp hc with rfl | hc
    · exact ⟨o, ho⟩
    · rw [List.mem_singleton.mp hc]
      exact ⟨o2, ho2⟩
  rel := fun i u e => by
    have hi : i < its.length := (List.getElem?_eq_some_iff.mp e).1
    have hi' : i < xs.length := by rw [rv.length]; exact hi
    have hx : xs[i]? = some xs[i] := List.getElem?_eq_getElem hi'
    obtain ⟨u', e1, r⟩ := rv.get hx
    rw [e] at e1
    cases e1
    exact ⟨_, hx, r⟩
theorem begun_lst {xs : List V} {its : List Value} (rv : Vals xs its) (h : s.heap.IsList a its.toArray) :
    Begun X s (.ref a) xs (fun i u => its[i]? = some u) (fun it i h => h.IsListIter it a i ∧ h.IsList a its.toArray) [a] where
  b := ⟨_, _, begins_list a its.toArray, h, fun it h' e k => ⟨⟨_, e, rfl, rfl⟩, h.at fun o e => k a o e⟩⟩
  d := fun A hA it hi => by
    obtain ⟨o, ho, _⟩ := id h
    have := Draws.list (prog := X.prog) (w := X.w) hA it a (Nat.ne_of_lt (Nat.lt_of_lt_of_le (Heap.lt_size ho) hi)) its.toArray
    simpa [rv.length] using this
  lt := fun c hc => by
    obtain ⟨o, ho, _⟩ := id h
    rw [List.mem_singleton.mp hc]
    exact Heap.lt_size ho
  live := fun it i h' st c hc => by
    obtain ⟨⟨o, ho, _⟩, o2, ho2, _⟩ := st
    rcases List.mem_cons.mp hc with rfl | hc
    · exact ⟨o, ho⟩
    · rw [List.mem_singleton.mp hc]
      exact ⟨o2, ho2⟩
  rel := fun i u e => by
    have hi : i < its.length := (List.getElem?_eq_some_iff.mp e).1
    have hi' : i < xs.length := by rw [rv.length]; exact hi
    have hx : xs[i]? = some xs[i] := List.getElem?_eq_getElem hi'
    obtain ⟨u', e1, r⟩ := rv.get hx
    rw [e] at e1
    cases e1
    exact ⟨_, hx, r⟩
theorem begun_str {z : Str} {t : Tok} : Begun X s (.str z t) (z.cps.toList.map fun c => V.str ⟨#[c]⟩) (fun i u => ∃ c k, z.cps[i]? = some c ∧ u = .str ⟨#[c]⟩ k) (fun it i h => h.IsStrIter it (strIterType z) z t i) [] where
  b := ⟨_, _, begins_text z t, trivial, fun it h' e _ => ⟨_, e, rfl, rfl⟩⟩
  d := fun A hA it hi => by
    have := Draws.text (prog := X.prog) (w := X.w) hA it z t
    simpa using this
  lt := fun c hc => nomatch hc
  live := fun it i h' st c hc => by
    obtain ⟨o, ho, _⟩ := st
    rcases List.mem_cons.mp hc with rfl | hc
    · exact ⟨o, ho⟩
    · cases hc
  rel := fun i u ⟨c, k, e, eu⟩ => by
    subst eu
    exact ⟨.str ⟨#[c]⟩, by rw [List.getElem?_map, Array.getElem?_toList, e]; rfl, k, rfl⟩
theorem lt4 (c N : Nat) (h : c < N) (m : c = N + 4 ∨ c = N + 3 ∨ c = N ∨ c = N + 1) : False := by omega
theorem kv_vals : ∀ {kvs : List (Key × V)} {us : List Value}, Vals (kvs.map (·.2)) us → ∃ prs : List (Key × Value), KV kvs prs ∧ prs.length = us.length ∧ ∀ (i : Nat) (k : Key) (v : Value), prs[i]? = some (k, v) ↔ (∃ y, kvs[i]? = some (k, y)) ∧ us[i]? = some v
  | [], _, r => by
    cases r
    exact ⟨[], .nil, rfl, by simp⟩
  | (k, y) :: kvs, _, r => by
    cases r with
    | @cons a b as bs h t =>
      obtain ⟨prs, q1, q2, q3⟩ := kv_vals t
      refine ⟨(k, b) :: prs, .cons ⟨rfl, h⟩ q1, by simp [q2], fun i k' v => ?_⟩
      cases i with
      | zero => simp
      | succ i => simpa using q3 i k' v
theorem dict_zip {v : Value} {b : Addr} {xs ys : List V} {its : List Value} {kvs : List (Key × V)} {P1 : Nat → Value → Prop} {St1 St2 : Addr → Nat → Heap → Prop} {fp1 fp2 : List Addr} {Q : VK} (hc : X.calm = true) (I : Inv X pins σ H s)
    (B1 : Begun X s v xs P1 St1 fp1) (B2 : Begun X s (.ref b) ys (fun i u => its[i]? = some u) St2 fp2) (ri : Vals ys its)
    (h1 : xs.take (min xs.length ys.length) = kvs.map (fun kv => kV kv.1)) (h2 : ys.take (min xs.length ys.length) = kvs.map (·.2)) (h3 : kvs.length ≤ sizeLine)
    (q : ∀ p, H p = none → Q (.ref p) (upd H p (.dK (mergeK [] kvs)))) :
    wpAny (model X.prog X.w) X.A (call (.type "zip") [v, .ref b]) (fun u s1 => wpAny (model X.prog X.w) X.A (call (.type "dict") [u]) (EP X pins σ Q) X.xe s1) X.xe s := by
  obtain ⟨o1, H1, b1, k1, n1⟩ := B1.b
  obtain ⟨o2, H2, b2, k2, n2⟩ := B2.b
  refine zip_begins2 b1 b2 k1 k2 fun h' hz hTI hTO g1 g2 hsz hk => ?_
  have hA : X.A.handled = none := I.ok.hd hc
  generalize hN : s.heap.objs.size = N at *
  have I2 : Inv X pins σ H { s with heap := h' } := I.kept (t' := s.toks) hk
  have rs : Vals (kvs.map (·.2)) (its.take (min xs.length ys.length)) := by
    rw [← h2]
    exact ri.take _
  obtain ⟨prs, rel, hl, hp⟩ := kv_vals rs
  have lk : kvs.length = min xs.length ys.length := by
    have e := congrArg List.length h2
    rw [List.length_take, List.length_map] at e
    omega
  have hlp : prs.length = min xs.length ys.length := by
    rw [hl, List.length_take, ← ri.length]
    omega
  have P := DZ.pairArg (prog := X.prog) (w := X.w) (N + 4) (N + 2) (N + 3) N (N + 1) (N :: fp1) ((N + 1) :: fp2) (n1 := xs.length) (n2 := ys.length) (P1 := P1) (P2 := fun i u => its[i]? = some u) (St1 := St1 N) (St2 := St2 (N + 1))
    (zip_sep2 (by rw [← hN]; exact B1.lt) (by rw [← hN]; exact B2.lt)) (fun A hh => B1.d A hh N (by omega)) (fun A hh => B2.d A hh (N + 1) (by omega)) (B1.live N) (B2.live (N + 1)) X.A hA
  refine PySem.call_dict_pairs (s := { s with heap := h' }) (knd := mixKind X.prog X.w) (kvs := prs) P hA ⟨hz, hTI, ⟨_, _, hTO⟩, n1 N h' g1 hk, n2 (N + 1) h' g2 hk⟩ ⟨hlp, fun i key u ⟨e1, e2⟩ => ?_⟩ (by rw [← lk]; exact h3) fun h'' tk hd' hk' => ?_
  · obtain ⟨x, hx, rx⟩ := B1.rel i key e1
    have hi1 : i < xs.length := (List.getElem?_eq_some_iff.mp hx).1
    have hi2 : i < ys.length := by rw [ri.length]; exact (List.getElem?_eq_some_iff.mp e2).1
    have hi : i < kvs.length := by rw [lk]; omega
    have ek : kvs[i]? = some kvs[i] := List.getElem?_eq_getElem hi
    refine ⟨kvs[i].1, (hp i _ _).mpr ⟨⟨_, ek⟩, ?_⟩, ?_⟩
    · rw [List.getElem?_take, if_pos (by omega)]
      exact e2
    · have e : (xs.take (min xs.length ys.length))[i]? = (kvs.map (fun kv => kV kv.1))[i]? := congrArg (fun l : List V => l[i]?) h1
      rw [List.getElem?_take, if_pos (by omega), hx, List.getElem?_map, ek] at e
      cases e
      exact kV_is rx
  · have hm : ((h').objs.size == sysModules) = false := beq_eq_false_iff_ne.mpr (Nat.ne_of_gt I2.big)
    have hlen : (mergeK [] kvs).length ≤ sizeLine := by
      refine Nat.le_trans (length_mergeK kvs []) ?_
      rw [List.length_nil, Nat.zero_add]
      exact h3
    have fresh : H h'.objs.size = none := I2.hok.fresh (Nat.le_refl _)
    have keep : ∀ c u, s.heap.get? c = some u → h''.get? c = some u := fun c u e => by
      have hc' : c < N := by rw [← hN]; exact Heap.lt_size e
      refine hk' c u (fun m => ?_) (hk c u e)
      simp only [List.mem_cons, List.not_mem_nil, or_false] at m
      exact lt4 c N hc' m
    exact ⟨.ref h'.objs.size, upd H h'.objs.size (.dK (mergeK [] kvs)), I.laid (t' := tk) keep (by rw [hN, hsz]; omega) (show ObjOk X.prog X.w _ _ _ (.dK (mergeK [] kvs)) from ⟨hlen, hm, merged [] prs, KV.merge rel .nil, hd'⟩), rfl, q _ fresh⟩
end
theorem pe_dictZip {X : Cx} {e e2 : Expr} {ta : TA} {p p2 q pos : Pos} (hc : X.calm = true) (hgd : Gl X "dict") (hmd : X.mg "dict" = none) (hg : Gl X "zip") (hm : X.mg "zip" = none) (ha : PA X [e, e2] ta)
    (hs : starEach [e, e2] X.env = (false, eval e X.env) :: starEach [e2] X.env := by rfl) (hpl : (backTo q (starEach [e2] X.env)).any (·.1) = false := by rfl)
    (hs1 : starEach [.Call (.Name "zip" p2) [e, e2] [] q] X.env = (false, eval (.Call (.Name "zip" p2) [e, e2] [] q) X.env) :: starEach [] X.env := by rfl) :
    PE X (.Call (.Name "dict" p) [.Call (.Name "zip" p2) [e, e2] [] q] [] pos) (tDictZip X.K ta) := by
  refine ⟨fun pins s σ H Q I h => ?_⟩
  refine Call_ (ld_blt I hgd hmd PyProof.Rows.boot_dict (PyProof.Rows.callWith_type1 ?_ hs1 rfl))
  rw [hs1]
  show wpAny _ _ (spliced ((false, eval (.Call (.Name "zip" p2) [e, e2] [] q) X.env) :: backTo pos (starEach [] X.env))) _ _ s
  refine Calls.spliced_cons (thn (Q := fun u s1 => wpAny (model X.prog X.w) X.A (call (.type "dict") [u]) (EP X pins σ Q) X.xe s1) ?_ fun u s1 hu => Calls.spliced_nil hu)
  refine Call_ (ld_blt I hg hm PyProof.Rows.boot_zip (PyProof.Rows.callWith_type1 (thn (ha.run q pins s σ H _ I h) fun us s1 ⟨vs, H1, I1, r1, q1⟩ => ?_) hs hpl))
  obtain ⟨x, b, xs, ys, kvs, ex, wx, wy, h1, h2, h3, qq⟩ := q1
  subst ex
  cases r1 with
  | @cons _ v _ vr rx rr =>
    cases rr with
    | cons ry rr =>
      cases rr
      cases ry
      rcases wx with ⟨z, rfl, rfl⟩ | ⟨a, rfl, qx⟩ | ⟨a, rfl, qx⟩
      · obtain ⟨t, rfl⟩ := rx
        rcases wy with qy | qy
        · obtain ⟨its, rv, pl, _⟩ := I1.tuple qy
          exact dict_zip hc I1 begun_str (begun_tup rv pl) rv h1 h2 h3 qq
        · obtain ⟨its, rv, pl, _⟩ := I1.list qy
          exact dict_zip hc I1 begun_str (begun_lst rv pl.isList) rv h1 h2 h3 qq
      · cases rx
        obtain ⟨its1, rv1, pl1, _⟩ := I1.tuple qx
        rcases wy with qy | qy
        · obtain ⟨its, rv, pl, _⟩ := I1.tuple qy
          exact dict_zip hc I1 (begun_tup rv1 pl1) (begun_tup rv pl) rv h1 h2 h3 qq
        · obtain ⟨its, rv, pl, _⟩ := I1.list qy
          exact dict_zip hc I1 (begun_tup rv1 pl1) (begun_lst rv pl.isList) rv h1 h2 h3 qq
      · cases rx
        obtain ⟨its1, rv1, pl1, _⟩ := I1.list qx
        rcases wy with qy | qy
        · obtain ⟨its, rv, pl, _⟩ := I1.tuple qy
          exact dict_zip hc I1 (begun_lst rv1 pl1.isList) (begun_tup rv pl) rv h1 h2 h3 qq
        · obtain ⟨its, rv, pl, _⟩ := I1.list qy
          exact dict_zip hc I1 (begun_lst rv1 pl1.isList) (begun_lst rv pl.isList) rv h1 h2 h3 qq
end L2

set_option Elab.async false
set_option linter.all false
set_option maxRecDepth 100000
set_option maxHeartbeats 1000000
namespace L2
open PySem PySem.Spec PyProof.Rows
/-- d.update(e) of two dicts -/
def rUpdate : V → List V → Hp → VK → Prop := fun x vs H Q => ∃ a b kvs more, x = .ref a ∧ vs = [.ref b] ∧ a ≠ b ∧ H a = some (.dK kvs) ∧ Rd H b (.dK more) ∧ kvs.length + more.length ≤ sizeLine ∧ Q .non (upd H a (.dK (mergeK kvs more)))
theorem mt_update {X : Cx} : MtR X "dict.update" rUpdate := by
  intro pins s σ H x xs v us Q I rx rxs h
  obtain ⟨a, b, kvs, more, rfl, rfl, hab, ha, hb, hz, q⟩ := h
  cases rx
  obtain ⟨u, rfl, ru⟩ := vals1 rxs
  cases ru
  obtain ⟨z1, lo1, vs1, rel1, dd1⟩ := dk_of I.hok ha
  obtain ⟨z2, lo2, vs2, rel2, dd2⟩ := dk_rd I.hok hb
  refine call_meetsIn PySem.F.slot_dict_update dd1.typeIs PySem.F.entry_dict_update (PySem.F.args_dict_update_2 _ _) (meets_dict_update (mixKind X.prog X.w) a b hab lo2) ⟨vs1, vs2, dd1, dd2, by rw [← rel1.length, ← rel2.length]; exact hz, fun h' d1 d2 sb => ?_⟩
  have hlen : (mergeK kvs more).length ≤ sizeLine := Nat.le_trans (length_mergeK more kvs) hz
  exact ⟨.non, _, d_write I (by rw [ha]; exact True.intro) sb (let ⟨q, _, _, hq, _⟩ := d1; ⟨q, hq⟩) (dk_new hlen lo1 (KV.merge rel2 rel1) d1), rfl, q⟩
theorem PE.or {X : Cx} {e : Expr} {t t' : TE} (h : PE X e t) (h' : PE X e t') : PE X e (fun σ H Q => t σ H Q ∨ t' σ H Q) := ⟨fun pins s σ H Q I q => q.elim (h.run pins s σ H Q I) (h'.run pins s σ H Q I)⟩
theorem PT.or {X : Cx} {e : Expr} {t t' : TT} (h : PT X e t) (h' : PT X e t') : PT X e (fun σ H Q => t σ H Q ∨ t' σ H Q) := ⟨fun pins s σ H Q I q => q.elim (h.run pins s σ H Q I) (h'.run pins s σ H Q I)⟩
theorem PI.or {X : Cx} {tg e : Expr} {t t' : TI} (h : PI X tg e t) (h' : PI X tg e t') : PI X tg e (fun σ H Q => t σ H Q ∨ t' σ H Q) := ⟨fun pins s σ H Q I q => q.elim (h.run pins s σ H Q I) (h'.run pins s σ H Q I)⟩
end L2

namespace DL
open PySem L2
section
variable {G : Gc} {μ μ1 : List Addr} {S : Sto} {H H1 : Hp} {p : Addr}
/-- a thing beside becomes an object -/
theorem Gr.adopt (g : Gr μ1 H1 μ H) (h1 : H1 p = none) {u : HO} : Gr μ1 H1 (μ ++ [p]) (upd H p u) := by
  have g' := g.aside h1 (o := u)
  obtain ⟨ν, e, hn⟩ := g'.pre
  refine ⟨⟨ν ++ [p], by rw [e, List.append_assoc], fun a m => ?_⟩, g'.keep, g'.live⟩
  rcases List.mem_append.mp m with m | m
  · exact hn a m
  · rw [List.mem_singleton.mp m]
    exact h1
theorem Gi.adopt {u u' : HO} (hp : H p = some u) (hi : imm u = false) : Gi μ H (μ ++ [p]) (upd H p u') := by
  refine ⟨⟨[p], rfl, fun a m o e => by rw [List.mem_singleton.mp m, hp] at e; cases e; exact hi⟩, fun a o _ h i => ?_⟩
  rw [upd_ne]
  · exact h
  · rintro rfl
    rw [hp] at h
    cases h
    rw [hi] at i
    cases i
theorem HS.adopt (h : HS G μ S H) {u u' : HO} {o : O} (hp : H p = some u) (hi : imm u = false) (n : p ∉ μ) (r : RO G (μ ++ [p]) (upd H p u') p o) : HS G (μ ++ [p]) (S ++ [o]) (upd H p u') := by
  refine ⟨by simp [h.len], ?_, fun m a o' e1 e2 => ?_⟩
  · rw [List.nodup_append]
    refine ⟨h.nd, by simp, fun a m b m' => ?_⟩
    rw [List.mem_singleton.mp m']
    rintro rfl
    exact n m
  · by_cases hn : m < μ.length
    · rw [List.getElem?_append_left hn] at e1
      rw [List.getElem?_append_left (by rw [← h.len]; exact hn)] at e2
      exact (h.at_ m a o' e1 e2).keepI (Gi.adopt hp hi) (upd_ne fun q => n (by rw [← q]; exact List.mem_of_getElem? e1))
    · have hn : μ.length ≤ m := Nat.le_of_not_lt hn
      rw [List.getElem?_append_right hn] at e1
      rw [List.getElem?_append_right (by rw [← h.len]; exact hn)] at e2
      have e0 : m - μ.length = 0 := by
        cases q : m - μ.length with
        | zero => rfl
        | succ m => rw [q] at e1; simp at e1
      rw [e0] at e1
      rw [← h.len, e0] at e2
      simp at e1 e2
      subst e1 e2
      exact r
end
section
variable {X : Cx} {T : Gt} {W : WX}
/-! ### dict(..), d.update(e), {..} -/
def mergeD (kvs more : List (Key × D)) : List (Key × D) := more.foldl (fun acc kv => putD acc kv.1 kv.2) kvs
theorem RKs.merge {K : PySem.W.Frag} {μ : List Addr} {H : Hp} {more : List (Key × V)} {more' : List (Key × D)} (r : RKs K μ H more more') : ∀ {kvs : List (Key × V)} {kvs' : List (Key × D)}, RKs K μ H kvs kvs' → RKs K μ H (mergeK kvs more) (mergeD kvs' more') := by
  induction r with
  | nil => exact fun h => h
  | @cons k v vs d ds h t ih => exact fun q => ih (q.put k h)
def dUpd (o a : Den) : Den := fun ε S => (o ε S).bind fun l S => match dctAt S l with
  | some _ => (a ε S).bind fun d S => (match dctAt S l, dctAt S d with
    | some (n, kvs), some (m, more) => if n ≠ m ∧ kvs.length + more.length ≤ big then .ok .non (S.set n (.dct (mergeD kvs more))) else .bad
    | _, _ => .bad)
  | none => .bad
theorem pd_update {o e : Expr} {apos cpos : Pos} {a b : Den} (ha : PE X o (tD (gx X T) W a)) (hb : PE X e (tD (gx X T) W b)) (hst : starEach [e] X.env = (false, eval e X.env) :: starEach [] X.env := by rfl)
    (hbase : attributeBase o "update" X.env (eval o X.env) = eval o X.env := by rfl)
    (hfew : ((backTo cpos (starEach [e] X.env)).all (fun x => !x.1) && (backToKw cpos (keywordEach [] X.env)).all (fun x => x.1.isSome)
      && decide (([e] : List Expr).length + ([] : List Keyword).length + (if ([] : List Keyword).isEmpty then 0 else 1) < 30)) = true := by rfl)
    (hline : (apos.endLine == cpos.line) = true := by rfl) (hplain : (backTo cpos (starEach [] X.env)).any (·.1) = false := by rfl) :
    PE X (.Call (.Attribute o "update" apos) [e] [] cpos) (tD (gx X T) W (dUpd a b)) :=
  (pe_bm PySem.F.plainAttrs_dict PySem.F.slot_dict_update PySem.F.type_dict_update mt_update ha (pa_cons hb pa_nil hst) hbase hfew hline hst hplain).imp fun σ H Q ⟨ε, μ, S, sr, hs, h⟩ => ⟨ε, μ, S, sr, hs, (wR.bind (Rl := rlV (gx X T)) sr h).imp fun v H1 ⟨d, μ1, S1, g1, hs1, sr1, r1, h1⟩ => by
    split at h1
    · rename_i z hz
      obtain ⟨n0, kvs0⟩ := z
      obtain ⟨p, ws, rfl, en, hp, rk⟩ := dctAt_of hs1 r1 hz
      refine ⟨.inr (.inr (.inl ⟨rfl, .inl ⟨ws, hp⟩⟩)), ε, μ1, S1, sr1, hs1, (wR.bind (Rl := rlV (gx X T)) sr1 h1).imp fun w H2 ⟨e, μ2, S2, g2, hs2, sr2, r2, h2⟩ => ?_⟩
      split at h2
      · rename_i n kvs m more hz2 hz3
        split at h2
        · rename_i hnm
          obtain ⟨p2, ws2, e2, en2, hp2, rk2⟩ := dctAt_of hs2 (RV.mono g2 r1) hz2
          cases e2
          obtain ⟨p3, ws3, rfl, en3, hp3, rk3⟩ := dctAt_of hs2 r2 hz3
          have hne : p ≠ p3 := fun q => hnm.1 (by subst q; exact nd_ix hs2.nd en2 en3)
          have g3 : Gr μ2 H2 μ2 (upd H2 p (.dK (mergeK ws2 ws3))) := Gr.write (List.mem_of_getElem? en2)
          exact ⟨p, p3, ws2, ws3, rfl, rfl, hne, hp2, .inl hp3, by rw [rk2.length, rk3.length]; exact big_ok hnm.2, h2 _ _ _ g3 (hs2.put en2 ⟨_, upd_same, (rk3.merge rk2).mono g3⟩) .non⟩
        · exact h2.elim
      · exact h2.elim
    · exact h1.elim⟩
def pairD : D → Option (Key × D)
  | .tup [k, v] => (keyD k).map fun k => (k, v)
  | _ => none
theorem pairs_to {K : PySem.W.Frag} {μ : List Addr} {H : Hp} : ∀ {vs : List V} {ds : List D} {kvs : List (Key × D)}, RVs K μ H vs ds → fall pairD ds = some kvs →
    ∃ (ps : List Addr) (ws : List (Key × V)), vs = ps.map V.ref ∧ Paired (fun p kv => SqT K H p [kV kv.1, kv.2]) ps ws ∧ RKs K μ H ws kvs
  | _, _, _, .nil, e => by cases e; exact ⟨[], [], rfl, .nil, .nil⟩
  | _, d :: ds, _, .cons h t, e => by
    unfold fall at e
    split at e
    · rename_i b s hb hs
      cases e
      obtain ⟨ps, ws, rfl, q1, q2⟩ := pairs_to t hs
      unfold pairD at hb
      split at hb
      · rename_i k v
        obtain ⟨j, hj, rfl⟩ := Option.map_eq_some_iff.mp hb
        cases h with
        | tup tt rs =>
          obtain ⟨x, y, rfl, rx, ry⟩ := two_of rs
          have ek := key_of rx hj
          subst ek
          exact ⟨_ :: ps, (j, y) :: ws, rfl, .cons tt.sq q1, .cons ry q2⟩
      · cases hb
    · cases e
def fDict : Fn := fun ds S => match ds with
  | [d] => (match dctAt S d with
    | some (_, kvs) => .ok (.ref S.length) (S ++ [.dct kvs])
    | none => (match litems S d with
      | some xs => (match fall pairD xs with
        | some kvs => .ok (.ref S.length) (S ++ [.dct (mergeD [] kvs)])
        | none => .bad)
      | none => .bad))
  | _ => .bad
theorem cd_dict (hc : X.calm = true) : CallD X T (.type "dict") fDict := by
  refine ⟨_, call_dictD.or (call_dictP hc), fun W σ μ S H vs ds Q hs r h => ?_⟩
  unfold fDict at h
  split at h
  · obtain ⟨v, rfl, r1⟩ := one_of r
    split at h
    · obtain ⟨p, ws, rfl, en, hp, rk⟩ := dctAt_of hs r1 ‹_›
      exact .inl ⟨p, ws, rfl, .inl hp, fun q hq => h _ _ _ (Gr.obj hq) (hs.grow hq ⟨_, upd_same, rk.mono (Gr.obj hq)⟩) (.ref hs.last)⟩
    · split at h
      · split at h
        · obtain ⟨a, xs, rfl, hq, rs⟩ := litems_of hs r1 ‹_›
          obtain ⟨ps, ws, rfl, q1, q2⟩ := pairs_to rs ‹_›
          exact .inr ⟨a, ps, ws, rfl, hq, q1, fun q hq => h _ _ _ (Gr.obj hq) (hs.grow hq ⟨_, upd_same, (q2.merge .nil).mono (Gr.obj hq)⟩) (.ref hs.last)⟩
        · exact h.elim
      · exact h.elim
  · exact h.elim
/-- what zip walks -/
def wkD (S : Sto) : D → Option (List D)
  | .str x => some (signs x)
  | d => items S d
theorem wk_of {G : Gc} {μ : List Addr} {S : Sto} {H : Hp} (hs : HS G μ S H) {v : V} {d : D} {ds : List D} (r : RV G.K μ H v d) (e : wkD S d = some ds) : ∃ xs, Wk G.K H v xs ∧ RVs G.K μ H xs ds := by
  unfold wkD at e
  split at e
  · rename_i x
    cases e
    cases r
    refine ⟨_, .inl ⟨x, rfl, rfl⟩, ?_⟩
    unfold signs
    induction x.cps.toList with
    | nil => exact .nil
    | cons c l ih => exact .cons (.str _) ih
  · obtain ⟨a, xs, rfl, hq, rs⟩ := items_of hs r e
    rcases hq with hq | hq
    · exact ⟨xs, .inr (.inr ⟨a, rfl, hq⟩), rs⟩
    · exact ⟨xs, .inr (.inl ⟨a, rfl, hq⟩), rs⟩
theorem keys_of {K : PySem.W.Frag} {μ : List Addr} {H : Hp} : ∀ {vs : List V} {ds : List D} {ks : List Key}, RVs K μ H vs ds → fall keyD ds = some ks → vs = ks.map kV
  | _, _, _, .nil, e => by cases e; rfl
  | _, d :: ds, _, .cons h t, e => by
    unfold fall at e
    split at e
    · rename_i b s hb hs
      cases e
      rw [key_of h hb, keys_of t hs]
      rfl
    · cases e
theorem fall_len {α β : Type} {f : α → Option β} : ∀ {l : List α} {r : List β}, fall f l = some r → r.length = l.length
  | [], _, e => by cases e; rfl
  | a :: l, r, e => by
    unfold fall at e
    split at e
    · rename_i b s hb hs
      cases e
      simp [fall_len hs]
    · cases e
theorem zip_rks {K : PySem.W.Frag} {μ : List Addr} {H : Hp} : ∀ {ks : List Key} {vs : List V} {ds : List D}, RVs K μ H vs ds → RKs K μ H (ks.zip vs) (ks.zip ds)
  | [], _, _, _ => .nil
  | _ :: _, _, _, .nil => .nil
  | _ :: _, _, _, .cons h t => .cons h (zip_rks t)
theorem map_zip_key : ∀ {ks : List Key} {vs : List V}, ks.length = vs.length → (ks.zip vs).map (fun kv => kV kv.1) = ks.map kV ∧ (ks.zip vs).map (·.2) = vs
  | [], [], _ => ⟨rfl, rfl⟩
  | k :: ks, v :: vs, h => by
    obtain ⟨h1, h2⟩ := map_zip_key (ks := ks) (vs := vs) (by simpa using h)
    exact ⟨by simp [h1], by simp [h2]⟩
def dDictZip (a b : Den) : Den := fun ε S => (a ε S).bind fun d S => (b ε S).bind fun e S => match wkD S d, items S e with
  | some xs, some ys => (match fall keyD (xs.take (min xs.length ys.length)) with
    | some ks => if ks.length ≤ big then .ok (.ref S.length) (S ++ [.dct (mergeD [] (ks.zip (ys.take (min xs.length ys.length))))]) else .bad
    | none => .bad)
  | _, _ => .bad
theorem pd_dictZip {e e2 : Expr} {a b : Den} {p p2 q pos : Pos} (hc : X.calm = true) (hgd : Gl X "dict") (hmd : X.mg "dict" = none) (hg : Gl X "zip") (hm : X.mg "zip" = none) (ha : PE X e (tD (gx X T) W a)) (hb : PE X e2 (tD (gx X T) W b))
    (hs : starEach [e, e2] X.env = (false, eval e X.env) :: starEach [e2] X.env := by rfl) (hs2 : starEach [e2] X.env = (false, eval e2 X.env) :: starEach [] X.env := by rfl) (hpl : (backTo q (starEach [e2] X.env)).any (·.1) = false := by rfl)
    (hs1 : starEach [.Call (.Name "zip" p2) [e, e2] [] q] X.env = (false, eval (.Call (.Name "zip" p2) [e, e2] [] q) X.env) :: starEach [] X.env := by rfl) :
    PE X (.Call (.Name "dict" p) [.Call (.Name "zip" p2) [e, e2] [] q] [] pos) (tD (gx X T) W (dDictZip a b)) :=
  (pe_dictZip hc hgd hmd hg hm (pa_cons ha (pa_cons hb pa_nil hs2) hs) hs hpl hs1).imp fun σ H Q ⟨ε, μ, S, sr, hs, h⟩ => ⟨ε, μ, S, sr, hs, (wR.bind (Rl := rlV (gx X T)) sr h).imp fun v H1 ⟨d, μ1, S1, g1, hs1, sr1, r1, h1⟩ =>
    ⟨ε, μ1, S1, sr1, hs1, (wR.bind (Rl := rlV (gx X T)) sr1 h1).imp fun w H2 ⟨e, μ2, S2, g2, hs2, sr2, r2, h2⟩ => by
      split at h2
      · rename_i xs ys hx hy
        split at h2
        · rename_i ks hk
          split at h2
          · obtain ⟨vs, wk, rs⟩ := wk_of hs2 (RV.mono g2 r1) hx
            obtain ⟨c, us, rfl, hq, rs2⟩ := items_of hs2 r2 hy
            have l1 := RVs.length rs
            have l2 := RVs.length rs2
            have lk := fall_len hk
            have rt := RVs.take (min vs.length us.length) rs2
            have lz : ks.length = (us.take (min vs.length us.length)).length := by
              rw [lk, List.length_take, List.length_take, l1, l2]
              omega
            obtain ⟨m1, m2⟩ := map_zip_key lz
            refine ⟨v, c, vs, us, ks.zip (us.take (min vs.length us.length)), rfl, wk, hq.symm, ?_, m2.symm, ?_, fun q hq => ?_⟩
            · rw [m1]
              refine keys_of (RVs.take (min vs.length us.length) rs) ?_
              rw [l1, l2]
              exact hk
            · rw [List.length_zip, ← lz, Nat.min_self]
              exact big_ok ‹_›
            · refine h2 _ _ _ (Gr.obj hq) (hs2.grow hq ⟨_, upd_same, ?_⟩) (.ref hs2.last)
              have z := (zip_rks (ks := ks) rt).mono (Gr.obj (o := .dK (mergeK [] (ks.zip (us.take (min vs.length us.length))))) hq)
              rw [l1, l2] at z ⊢
              exact z.merge .nil
          · exact h2.elim
        · exact h2.elim
      · exact h2.elim⟩⟩
/-- {k: v, ..} -/
def dPairs : List (Den × Den) → Env → Sto → R (List (D × D))
  | [], _, S => .ok [] S
  | (k, v) :: r, ε, S => (k ε S).bind fun x S => (v ε S).bind fun y S => (dPairs r ε S).bind fun ps S => .ok ((x, y) :: ps) S
def keyed : List (D × D) → Option (List (Key × D))
  | [] => some []
  | (k, v) :: r => match keyD k, keyed r with
    | some j, some s => some ((j, v) :: s)
    | _, _ => none
def dDisp (ps : List (Den × Den)) : Den := fun ε S => (dPairs ps ε S).bind fun qs S => match keyed qs with
  | some kvs => if kvs.length ≤ 15 then .ok (.ref S.length) (S ++ [.dct (mergeD [] kvs)]) else .bad
  | none => .bad
inductive RP (K : PySem.W.Frag) (μ : List Addr) (H : Hp) : List (V × V) → List (D × D) → Prop
  | nil : RP K μ H [] []
  | cons {x y : V} {d e : D} {vs : List (V × V)} {ds : List (D × D)} : RV K μ H x d → RV K μ H y e → RP K μ H vs ds → RP K μ H ((x, y) :: vs) ((d, e) :: ds)
theorem RP.keyed {K : PySem.W.Frag} {μ : List Addr} {H : Hp} : ∀ {vs : List (V × V)} {ds : List (D × D)} {kvs : List (Key × D)}, RP K μ H vs ds → DL.keyed ds = some kvs → ∃ ws : List (Key × V), vs = ws.map (fun kv => (kV kv.1, kv.2)) ∧ RKs K μ H ws kvs
  | _, _, _, .nil, e => by cases e; exact ⟨[], rfl, .nil⟩
  | _, _, _, .cons hx hy t, e => by
    unfold DL.keyed at e
    split at e
    · rename_i j s hj hs
      cases e
      obtain ⟨ws, rfl, q⟩ := RP.keyed t hs
      have ek := key_of hx hj
      subst ek
      exact ⟨(j, _) :: ws, rfl, .cons hy q⟩
    · cases e
theorem pairs_w : ∀ (ps : List (Den × Den)) {α : Type} {σ : L2.St} {ε : Env} {μ : List Addr} {S : Sto} {H : Hp} {k : List (D × D) → Sto → R D} {Q : List (V × V) → Hp → Prop} (B : R D → List Addr → Hp → Prop) (hB0 : ∀ μ H, ¬ B .bad μ H)
    (hBx : ∀ c S μ H, HS (gx X T) μ S H → B (.exc c S) μ H → ∀ C μ' H', T.xA c = some C → Gr μ H μ' H' → HS (gx X T) μ' S H' → W (.ref C) none σ H') (hBu : ∀ r μ H μ' H', Gr μ H μ' H' → B r μ H → B r μ' H'),
    SR X.K μ H σ ε → HS (gx X T) μ S H → B ((dPairs ps ε S).bind k) μ H →
    (∀ vs ds μ' S' H', Gr μ H μ' H' → HS (gx X T) μ' S' H' → RP X.K μ' H' vs ds → B (k ds S') μ' H' → Q vs H') →
    tPairs (ps.map fun p => (tD (gx X T) W p.1, tD (gx X T) W p.2)) σ H Q
  | [], α, σ, ε, μ, S, H, k, Q, B, hB0, hBx, hBu, sr, hs, h, q => q [] [] μ S H Gr.refl hs .nil h
  | (a, b) :: ps, α, σ, ε, μ, S, H, k, Q, B, hB0, hBx, hBu, sr, hs, h, q => by
    refine ⟨ε, μ, S, sr, hs, ?_⟩
    show wR (gx X T) W (rlV (gx X T)) (a ε S) σ μ H _
    unfold dPairs at h
    cases ea : a ε S with
    | bad => rw [ea] at h; exact (hB0 _ _ h).elim
    | exc c S1 => rw [ea] at h; exact fun C μ' H' hx g hs' => hBx c S1 μ' H' hs' (hBu _ _ _ _ _ g h) C μ' H' hx Gr.refl hs'
    | ok x S1 =>
      rw [ea] at h
      intro v μ1 H1 g1 hs1 r1
      refine ⟨ε, μ1, S1, sr.mono g1, hs1, ?_⟩
      show wR (gx X T) W (rlV (gx X T)) (b ε S1) σ μ1 H1 _
      simp only [R.bind_ok] at h
      cases eb : b ε S1 with
      | bad => rw [eb] at h; exact (hB0 _ _ h).elim
      | exc c S2 => rw [eb] at h; exact fun C μ' H' hx g hs' => hBx c S2 μ' H' hs' (hBu _ _ _ _ _ (g1.trans g) h) C μ' H' hx Gr.refl hs'
      | ok y S2 =>
        rw [eb] at h
        intro w μ2 H2 g2 hs2 r2
        simp only [R.bind_ok] at h
        rw [R.bind_assoc] at h
        refine pairs_w ps (α := α) (k := fun qs S => k ((x, y) :: qs) S) B hB0 hBx hBu ((sr.mono g1).mono g2) hs2 (hBu _ _ _ _ _ (g1.trans g2) h) fun vs ds μ' S' H' g hs' rp h' => ?_
        exact q _ _ μ' S' H' ((g1.trans g2).trans g) hs' (.cons (RV.mono g (RV.mono g2 r1)) (RV.mono g r2) rp) h'
theorem pd_disp {keys : List (Option Expr)} {values : List Expr} {pos : Pos} (ps : List (Den × Den)) (h : PPs X pos keys values (ps.map fun p => (tD (gx X T) W p.1, tD (gx X T) W p.2))) (hall : keys.all (·.isSome) = true) (hl : keys.length = values.length) (h0 : keys ≠ []) (h15 : keys.length ≤ 15) :
    PE X (.Dict keys values pos) (tD (gx X T) W (dDisp ps)) :=
  (pe_disp h hall hl h0 h15).imp fun σ H Q ⟨ε, μ, S, sr, hs, h⟩ p hp => by
    have g0 : Gr μ H μ (upd H p (.dK [])) := Gr.new hp
    have n0 : p ∉ μ := hs.fresh hp
    refine pairs_w (X := X) (T := T) (W := W) ps (α := Unit) (S := S) (μ := μ) (ε := ε) (k := fun qs S => match keyed qs with
      | some kvs => if kvs.length ≤ 15 then .ok (.ref S.length) (S ++ [.dct (mergeD [] kvs)]) else .bad
      | none => .bad) (fun r μ' H' => Gr μ H μ' H' ∧ wR (gx X T) W (rlV (gx X T)) r σ μ H Q) (fun _ _ z => z.2) (fun c S1 μ1 H1 hs1 z C μ' H' hx g hs' => z.2 C μ' H' hx (z.1.trans g) hs') (fun r μ1 H1 μ2 H2 g z => ⟨z.1.trans g, z.2⟩) (sr.mono g0) (hs.beside hp) ⟨g0, h⟩ fun vs ds μ' S' H' g hs' rp z => ?_
    have hp' : H' p = some (.dK []) := g.keep p _ n0 upd_same
    have n' : p ∉ μ' := g.notin upd_same n0
    refine ⟨hp', ?_⟩
    obtain ⟨zg, zh⟩ := z
    split at zh
    · rename_i kvs hk
      split at zh
      · obtain ⟨ws, rfl, rk⟩ := rp.keyed hk
        refine ⟨ws, rfl, by rw [rk.length]; assumption, zh _ _ _ (zg.adopt hp) (hs'.adopt hp' rfl n' ⟨_, upd_same, ?_⟩) (.ref hs'.last)⟩
        exact (rk.monoI (Gi.adopt hp' rfl)).merge .nil
      · exact zh.elim
    · exact zh.elim

/-! ### subscripts, walks: by what is met -/
def oGet : Op := fun d k S => match dctAt S d with
  | some (_, kvs) => (match keyD k with
    | some j => (match valD kvs j with
      | some v => .ok v S
      | none => .bad)
    | none => .bad)
  | none => oIx d k S
theorem pd_sub {a b : Expr} {da db : Den} {pos : Pos} (hu : X.A.units + 1 < cLine) (ha : PE X a (tD (gx X T) W da)) (hb : PE X b (tD (gx X T) W db)) (hp : PlainIx b := by exact fun _ _ => rfl) (hn : NoSl b := by exact fun _ _ => rfl) : PE X (.Subscript a b pos) (tD (gx X T) W (dBin oGet da db)) :=
  (L2.PE.or (pd_dget (T := T) (W := W) hu ha hb hn) (pd_ix (T := T) (W := W) ha hb hp)).imp fun σ H Q ⟨ε, μ, S, sr, hs, h⟩ => by
    unfold dBin at h
    cases ea : da ε S with
    | bad => rw [ea] at h; exact h.elim
    | exc c S1 =>
      rw [ea] at h
      refine .inr ⟨ε, μ, S, sr, hs, ?_⟩
      unfold dBin
      rw [ea]
      exact h
    | ok d S1 =>
      rw [ea] at h
      cases eb : db ε S1 with
      | bad => rw [R.bind_ok, eb] at h; exact h.elim
      | exc c S2 =>
        rw [R.bind_ok, eb] at h
        refine .inr ⟨ε, μ, S, sr, hs, ?_⟩
        unfold dBin
        rw [ea, R.bind_ok, eb]
        exact h
      | ok k S2 =>
        rw [R.bind_ok, eb, R.bind_ok] at h
        unfold oGet at h
        cases ed : dctAt S2 d with
        | none =>
          rw [ed] at h
          refine .inr ⟨ε, μ, S, sr, hs, ?_⟩
          unfold dBin
          rw [ea, R.bind_ok, eb, R.bind_ok]
          exact h
        | some z =>
          obtain ⟨n, kvs⟩ := z
          rw [ed] at h
          refine .inl ⟨ε, μ, S, sr, hs, ?_⟩
          unfold dGetI
          rw [ea, R.bind_ok, eb, R.bind_ok, ed]
          simp only at h ⊢
          cases ek : keyD k with
          | none => rw [ek] at h; exact h.elim
          | some j => rw [ek] at h; exact h
def iAny (a : Den) : IDen := fun ε S => (a ε S).bind fun d S => match d with
  | .tup ds => .ok (fun _ => some ds) S
  | .str x => .ok (fun _ => some (signs x)) S
  | d => (match litems S d with
    | some _ => .ok (fun S => litems S d) S
    | none => .bad)
theorem pid_any {tg e : Expr} {a : Den} (ha : PE X e (tD (gx X T) W a)) : PI X tg e (tIt (gx X T) W (iAny a)) :=
  (PI.or (pid_tup ha) (PI.or (pid_str ha) (pid_seq ha))).imp fun σ H Q ⟨ε, μ, S, sr, hs, h⟩ => by
    unfold iAny at h
    cases ea : a ε S with
    | bad => rw [ea] at h; exact h.elim
    | exc c S1 =>
      rw [ea] at h
      refine .inl ⟨ε, μ, S, sr, hs, ?_⟩
      unfold iTupD
      rw [ea]
      exact h
    | ok d S1 =>
      rw [ea, R.bind_ok] at h
      cases d with
      | tup ds =>
        refine .inl ⟨ε, μ, S, sr, hs, ?_⟩
        unfold iTupD
        rw [ea]
        exact h
      | str x =>
        refine .inr (.inl ⟨ε, μ, S, sr, hs, ?_⟩)
        unfold iSigns
        rw [ea]
        exact h
      | _ =>
        refine .inr (.inr ⟨ε, μ, S, sr, hs, ?_⟩)
        unfold iSeq
        rw [ea]
        exact h
/-- min of a list of ints -/
def minI : List Int → Option Int
  | [] => none
  | x :: r => match minI r with
    | none => some x
    | some y => some (if x < y then x else y)
theorem minI_of : ∀ {ns : List Int} {m : Int}, minI ns = some m → m ∈ ns ∧ ∀ k ∈ ns, m ≤ k
  | [], _, e => by cases e
  | x :: r, m, e => by
    unfold minI at e
    cases q : minI r with
    | none =>
      rw [q] at e
      cases e
      cases r with
      | nil => exact ⟨by simp, by simp⟩
      | cons y s =>
        unfold minI at q
        split at q <;> cases q
    | some y =>
      rw [q] at e
      cases e
      obtain ⟨h1, h2⟩ := minI_of q
      split
      · refine ⟨by simp, fun k hk => ?_⟩
        rcases List.mem_cons.mp hk with rfl | hk
        · omega
        · have := h2 k hk
          omega
      · refine ⟨by simp [h1], fun k hk => ?_⟩
        rcases List.mem_cons.mp hk with rfl | hk
        · omega
        · exact h2 k hk
def fMin : Fn := fLst fun xs S => match fall intD xs with
  | some ns => (match minI ns with
    | some m => .ok (.int m) S
    | none => .bad)
  | none => .bad
theorem cd_min (hc : X.calm = true) : CallD X T (.builtin "min") fMin := by
  refine ⟨_, cr_min hc, fun W σ μ S H vs ds Q hs r h => ?_⟩
  unfold fMin fLst at h
  split at h
  · split at h
    · dsimp only at h
      split at h
      · rename_i he _ ns hn
        split at h
        · rename_i m hm
          obtain ⟨v, rfl, r1⟩ := one_of r
          obtain ⟨a, xs, rfl, hq, rs⟩ := litems_of hs r1 he
          rw [fall_ints hn] at rs
          rw [rs.ints] at hq
          obtain ⟨m1, m2⟩ := minI_of hm
          refine ⟨_, _, rfl, hq, ?_, fun k hk hle => ?_⟩
          · cases ns with
            | nil => cases hm
            | cons _ _ => exact Nat.succ_pos _
          · have e : k = m := by
              have h1 := hle m m1
              have h2 := m2 k hk
              omega
            rw [e]
            exact wR.here hs h (.int _)
        · exact h.elim
      · exact h.elim
    · exact h.elim
  · exact h.elim
end
end DL
namespace L2
open PySem PySem.Spec PyProof.Rows
theorem PS.or {X : Cx} {st : Stmt} {t t' : TS} (h : PS X st t) (h' : PS X st t') : PS X st (fun N σ H => t N σ H ∨ t' N σ H) := ⟨fun pins s σ H N I q => q.elim (h.run pins s σ H N I) (h'.run pins s σ H N I)⟩
theorem Room.u65 {k : Nat} {A : Around} (r : Room k A) : A.units + 65 < cLine := by have := r.un; omega
end L2
namespace DL
open PySem L2
section
variable {X : Cx} {T : Gt} {W : WX}
/-- o[k] = v, a dict or a list -/
def sPut (o k v : Den) : SDen := fun ε S => sE (v ε S) ε fun x S => sE (o ε S) ε fun l S => sE (k ε S) ε fun y S => match dctAt S l with
  | some (n, kvs) => (match keyD y with
    | some j => if kvs.length < big then .ok (.nx ε) (S.set n (.dct (putD kvs j x))) else .bad
    | none => .bad)
  | none => (match lstAt S l, y with
    | some (n, ds), .int i => (match ixN ds.length i with
      | some j => .ok (.nx ε) (S.set n (.lst (ds.set j x)))
      | none => .bad)
    | _, _ => .bad)
theorem psd_put {o i value : Expr} {pos pos' : Pos} {l k v : Den} (hu : X.A.units + 1 < cLine) (ho : PE X o (tD (gx X T) W l)) (hi : PE X i (tD (gx X T) W k)) (hv : PE X value (tD (gx X T) W v)) (hsw : swapsWith value (some (.Subscript o i pos')) pos.line X.env = pure false := by rfl)
    (hs : swapsWithSole [.Subscript o i pos'] value pos.line X.env = pure false := by rfl) (hw : swappedStores [.Subscript o i pos'] value X.env = pure none := by rfl)
    (h1 : (assignEach [.Subscript o i pos'] X.env).map (·.2) = [assign (.Subscript o i pos') X.env] := by rfl)
    (h2 : ∀ v, assign (.Subscript o i pos') X.env v = (do
        let ov ← holding [v] (eval o X.env)
        let iv ← holding [v, ov] (eval i X.env)
        standAt pos'
        holding [v, ov, iv] (setItem ov iv v)
        release [v, ov, iv] []) := by intro _; rfl) :
    PS X (.Assign [.Subscript o i pos'] value pos) (tS (gx X T) W (sPut l k v)) :=
  (PS.or (psd_dput (T := T) (W := W) hu ho hi hv hsw) (psd_lput (T := T) (W := W) ho hi hv hs hw h1 h2)).imp fun N σ H ⟨ε, μ, S, sr, hs, h⟩ => by
    unfold sPut at h
    cases ea : v ε S with
    | bad => rw [ea] at h; exact h.elim
    | exc c S1 =>
      rw [ea] at h
      refine .inl ⟨ε, μ, S, sr, hs, ?_⟩
      unfold sDPutD
      rw [ea]
      exact h
    | ok x S1 =>
      rw [ea] at h
      simp only [sE] at h
      cases eb : l ε S1 with
      | bad => rw [eb] at h; exact h.elim
      | exc c S2 =>
        rw [eb] at h
        refine .inl ⟨ε, μ, S, sr, hs, ?_⟩
        unfold sDPutD
        rw [ea]
        simp only [sE, eb]
        exact h
      | ok o S2 =>
        rw [eb] at h
        simp only at h
        cases ec : k ε S2 with
        | bad => rw [ec] at h; exact h.elim
        | exc c S3 =>
          rw [ec] at h
          refine .inl ⟨ε, μ, S, sr, hs, ?_⟩
          unfold sDPutD
          rw [ea]
          simp only [sE, eb, ec]
          exact h
        | ok y S3 =>
          rw [ec] at h
          simp only at h
          cases ed : dctAt S3 o with
          | some z =>
            obtain ⟨n, kvs⟩ := z
            rw [ed] at h
            refine .inl ⟨ε, μ, S, sr, hs, ?_⟩
            unfold sDPutD
            rw [ea]
            simp only [sE, eb, ec, ed]
            cases ek : keyD y with
            | none => simp only [ek] at h; exact h.elim
            | some j => simp only [ek] at h; exact h
          | none =>
            rw [ed] at h
            refine .inr ⟨ε, μ, S, sr, hs, ?_⟩
            unfold sLPutD
            rw [ea]
            simp only [sE, eb, ec]
            cases o with
            | ref n =>
              cases y with
              | int i =>
                simp only [lstAt] at h
                cases en : S3[n]? with
                | none => simp only [en] at h; exact h.elim
                | some ob =>
                  cases ob with
                  | lst ds => simp only [en] at h ⊢; exact h
                  | _ => simp only [en] at h; exact h.elim
              | _ => (revert h; cases lstAt S3 (.ref n) <;> exact fun h => h.elim)
            | _ => simp only [lstAt] at h; exact h.elim
theorem fld_of {K : PySem.W.Frag} {ι : Type} (ca : ι → Addr) (nm : ι → Str) {f : Str} (h : ∀ i, Cls K (ca i) ∧ NoAttr K (ca i) f) {cA : Str → Option Addr} (hA : ∀ c C, cA c = some C → ∃ i, C = ca i) : ∀ c C, cA c = some C → Cls K C ∧ NoAttr K C f := fun c C e => by
  obtain ⟨i, rfl⟩ := hA c C e
  exact h i
end
end DL

set_option Elab.async false
set_option linter.all false
namespace DL
open PySem L2
theorem no_exc {P : Program} {w : World} {H : Hp} {s : Shared} {e : Value} {s' : Shared} (z : L2.CX P w [] H s (fun _ _ _ => False) e s') : False := by
  obtain ⟨_, _, _, _, _, _, _, _, _, _, _, _, z⟩ := z
  exact z
theorem hs_nil (G : Gc) (H : Hp) : HS G [] [] H := ⟨rfl, List.nodup_nil, fun n a o e => by simp at e⟩
theorem rvs_ints {K : PySem.W.Frag} {μ : List Addr} {H : Hp} : ∀ ns : List Int, RVs K μ H (ns.map V.int) (ns.map D.int)
  | [] => .nil
  | i :: r => .cons (.int i) (rvs_ints r)
theorem rv_script {K : PySem.W.Frag} {H : Hp} {a : Addr} {ns : List Int} (hO : Only H) (h : SqL K H a (ns.map V.int)) : RV K [] H (.ref a) (.seq (ns.map D.int)) := .seq (LstA.of hO h) (rvs_ints ns)
end DL

set_option Elab.async false
set_option linter.all false
set_option maxRecDepth 100000
set_option maxHeartbeats 1000000
namespace DL
open PySem L2 PyProof.Rows
/-- an exception class of the text, straight below Exception, with nothing of its own -/
structure ExcC (K : PySem.W.Frag) (C : Addr) : Prop where
  xin : PySem.W.excIn K C [.type "Exception", .type "BaseException", .type "object"] "Exception.__new__" = true
  kp : PySem.W.keepIn K (.ref C) = true
  sb : PySem.W.subIn K (.ref C) (.type "BaseException") = some true
  ty : PySem.W.typeIn K (.ref C) = some (.type "type")
  cl : PySem.W.isClsIn K C = true
  se : PySem.W.subIn K (.ref C) (.ref C) = some true
section
variable {X : Cx} {T : Gt} {W : WX} {C : Addr} {x m : Str} {j : Nat} {p p2 pos pos2 : Pos}
theorem pmk_bare (F : ExcC X.K C) (gC : X.mg x = some (.ref C)) (hg : Gl X x) (hdb : (x == ("__debug__" : Str)) = false := by decide) : PMk X (.Call (.Name x p) [] [] pos) (fun _ H Q => Q (.ref C) none H) := by
  intro pins s σ H Q I h
  refine wpAny_Call_Name_kw (ld_glob I hg gC ?_ hdb)
  refine PySem.W.callWith_K0 (first := []) I.kIn F.kp ?_
  show wpAny _ _ (call (.ref C) []) _ _ _
  obtain ⟨bm, N, nm, qn, bs, hdct, sn, sub, ab, col, dd, k0, k1, k2, k3, k5, mN, hC, hN, hni, T⟩ := exc_obj I.kIn F.xin
  refine wpAny_call_exc_subT PySem.F.excBase_Exception T hC hN hni (fun h' e hm => ?_) (by show 0 ≤ sizeLine; rw [sizeLine_eq]; omega)
  exact mk_of I hm (raises_own F.sb F.ty) h (I.hok.gone hm.new)
/-- raise C(..) -/
def sRaise (c : Str) : SDen := fun ε S => .ok (.ex c ε) S
theorem psd_raiseOf {c : Str} {e : Expr} (hc : X.calm = true) (tk : Takes X W) (hx : T.xA c = some C) (mk : PMk X e (fun _ H Q => Q (.ref C) none H)) : PS X (.Raise (some e) none pos) (tS (gx X T) W (sRaise c)) :=
  (ps_raise hc tk mk).imp fun N σ H ⟨ε, μ, S, sr, hs, h⟩ => h C σ μ H hx Gr.refl hs sr
theorem psd_raise0 {c : Str} (hc : X.calm = true) (tk : Takes X W) (hx : T.xA c = some C) (F : ExcC X.K C) (gC : X.mg x = some (.ref C)) (hg : Gl X x) (hdb : (x == ("__debug__" : Str)) = false := by decide) :
    PS X (.Raise (some (.Call (.Name x p) [] [] pos)) none pos2) (tS (gx X T) W (sRaise c)) := psd_raiseOf hc tk hx (pmk_bare F gC hg hdb)
theorem psd_raise1 {c : Str} (hc : X.calm = true) (tk : Takes X W) (hx : T.xA c = some C) (F : ExcC X.K C) (gC : X.mg x = some (.ref C)) (hg : Gl X x) (hdb : (x == ("__debug__" : Str)) = false := by decide) :
    PS X (.Raise (some (.Call (.Name x p) [.Constant (.str m) j p2] [] pos)) none pos2) (tS (gx X T) W (sRaise c)) := psd_raiseOf hc tk hx (pmk_own PySem.F.excBase_Exception F.xin gC F.kp (raises_own F.sb F.ty) hg hdb)
end
end DL

set_option Elab.async false
set_option linter.all false
namespace DL
open PySem L2 DL
inductive CF where
  | f_is_number
  | f_is_word
  | f_is_shelf
  | m_Reader_init
  | m_Reader_is_deed
  | m_Reader_is_call
  | f_is_leaf
  | f_are_names
  | f_is_rule
  | f_is_rules
  | f_is_deed
  | f_parts_of
  | f_size_of
  | f__law_cell
  | f__law_drawn
  | f__law_leaf
  | f__law_deed
  | f__law_call
  | f__law_rules
  | f__law_store
  | f__law_asked
  | f__law_odd
  | f__law_spoilt
  | f__law_is_word
  | f__law_left
  | f__law_left_of_all
  | f__law_left_of_call
  | f__law_size
  | f__law_weight
  | f__law_light
  | f__law_each
  | m_Run_init
  | m_Run_touch
  | m_Run_worth
  | m_Run_at_shelf
  | m_Run_with_names
  | m_Run_put_together
  | m_World_init
  | m_World_touched
  | m_World_shelves
  | f_finished
  | f_run
  | f_trace
  | f__law_touch
  | f__law_worth
  | f__law_called
  | f__law_behind
  | f__law_next
  | f__law_world
  | f__law_do
  | f__law_turn
  | f__law_by
  | m_Thread_init
  | m_Thread_look
  | m_Thread_go
  | f_run_all
  | f_run_by
  | f__law_quiet
  | f_marks_of
  | f_once
  | f_call_marks
  | f_touches
  | f_rule_touches
  | f_shelves_of
  | f_reads_of
  | f_writes_of
  | f_is_quiet_by
  | f_is_quiet
  | f_untouched
  | f__law_marks
  | f_is_met
  | f_clash
  | f_may_go
  | f_run_in
  | f_order_matters
  | f_is_mark
  | f_is_kind
  | f_is_less
  | f_joined
  | f_both_of
  | f__law_is_mark
  | f__law_is_kind
  | f__law_kind
  | f_fits
  | f_too_much
  | f_least_kinds
  | f_need_kinds
  | f_first_fault
  | f_told_touches
  | f_told_marks
  | f__law_told_marks
  | f__law_asked_so
  | f__law_clash
  | f_words_in
  | f_with_words
  | f_changed
  | f_with_handed
  | m_Names_init
  | m_Names_fresh
  | m_Names_renewed
  | f_put_in
  | f_without_calls
  | f_all_may_go
  | f_clashing
  | f_goes_twice
  | f__law_apart
  | f__law_small
  | f__law_side
  | f_layers
  | f_is_order
  | f__law_order
  | f__law_kept
  | f_tidied
  | f_is_idle
  | f_lessened
  | f__law_idle
  | f__wall
  | m_Hall_init
  | m_Hall_need
  | m_Hall_going
  | m_Hall_begin
  | m_Hall_waits_for
  | m_Hall_turn
  | m_Hall_worth
  | m_Hall_finish
  | m_Hall_store
  | m_Hall_said
  | f__law_refused
  | f__law_going
  | f__law_waits
  | f__law_to_its_end
  | f__law_is_refused
  | f_words_for
  | f_written
  | m_Words_init
  | m_Words_next_word
  | m_Words_thing
  | m_Words_row
  | f_read
  | f__law_read
  | f__law_seen
  | f__law_state
  | f__law_refuses
  | f__law_hall_stands
/-! is_number: 0=thing -/
def b_f_is_number (c c2 : CF → Fn) : SDen :=
    (sRet (dAndV (dIsi "int" (dVar 0)) (dAndV (dNotV (dIsi "bool" (dVar 0))) (dChain oLe oLt (dC (.int 0)) (dVar 0) (dC (.int 1009))))))
/-! is_word: 0=thing 1=letters 2=sign -/
def b_f_is_word (c c2 : CF → Fn) : SDen :=
    (sSeq (sIf (bOr (bNot (dTest (dIsi "str" (dVar 0)))) (bOr (bNot (dTest (dChain oLe oLe (dC (.int 1)) (dFn fLen (dCons (dVar 0) dNil)) (dC (.int 4))))) (dTest (dBin oNotIn (dBin oGet (dVar 0) (dC (.int 0))) (dVar 1))))) (sRet (dC (.bl false))) sNil)
    (sRet (dFn fAll (dCons (dLc (iAny (dSl (dVar 0) (dPart (dC (.int 1))) dNoPart)) (gN 2) bYes (dBin oIn (dVar 2) (dC (.str "0123456789"))) [2]) dNil))))
/-! is_shelf: 0=thing 1=known -/
def b_f_is_shelf (c c2 : CF → Fn) : SDen :=
    (sSeq (sIf (dTest (dCall 2 (c .f_is_word) (dCons (dVar 0) (dCons (dC (.str "pq")) dNil)))) (sRet (dBin oIn (dVar 0) (dVar 1))) sNil)
    (sRet (dAndV (dIsi "str" (dVar 0)) (dAndV (dBin oEq (dFn fLen (dCons (dVar 0) dNil)) (dC (.int 1))) (dBin oIn (dVar 0) (dC (.str "abcd")))))))
/-! Reader.__init__: 0=self 1=rules 2=below -/
def b_m_Reader_init (c c2 : CF → Fn) : SDen :=
    (sSeq (sFldD "rules" (dVar 1) (dVar 0))
    (sSeq (sFldD "below" (dVar 2) (dVar 0))
    (sFldD "left" (dC (.int 60)) (dVar 0))))
/-! Reader.is_deed: 0=self 1=thing 2=known 3=word 4=sizes 5=part -/
def b_m_Reader_is_deed (c c2 : CF → Fn) : SDen :=
    sNever
/-! Reader.is_call: 0=self 1=thing 2=known 3=names 4=handed 5=body 6=part -/
def b_m_Reader_is_call (c c2 : CF → Fn) : SDen :=
    (sSeq (sIf (bOr (dTest (dBin oNe (dFn fLen (dCons (dVar 1) dNil)) (dC (.int 4)))) (bOr (bNot (dTest (dCall 1 (c .f_is_number) (dCons (dBin oGet (dVar 1) (dC (.int 1))) dNil)))) (dTest (dBin oGe (dBin oGet (dVar 1) (dC (.int 1))) (dFld "below" (dVar 0)))))) (sRet (dC (.bl false))) sNil)
    (sSeq (sAsg (dBin oGet (dFld "rules" (dVar 0)) (dBin oGet (dVar 1) (dC (.int 1)))) (gT 3 (gsCons (gN 3) (gsCons (gN 4) (gsCons (gN 5) gsNil)))))
    (sSeq (sIf (bOr (bNot (dTest (dIsi "tuple" (dBin oGet (dVar 1) (dC (.int 2)))))) (bNot (dTest (dIsi "tuple" (dBin oGet (dVar 1) (dC (.int 3))))))) (sRet (dC (.bl false))) sNil)
    (sSeq (sIf (bOr (dTest (dBin oNe (dFn fLen (dCons (dBin oGet (dVar 1) (dC (.int 2))) dNil)) (dFn fLen (dCons (dVar 3) dNil)))) (dTest (dBin oNe (dFn fLen (dCons (dBin oGet (dVar 1) (dC (.int 3))) dNil)) (dFn fLen (dCons (dVar 4) dNil))))) (sRet (dC (.bl false))) sNil)
    (sRet (dFn fAll (dCons (dLc (iAny (dBin oAdd (dBin oGet (dVar 1) (dC (.int 2))) (dBin oGet (dVar 1) (dC (.int 3))))) (gN 6) bYes (dMeth "Reader" "is_deed" 3 (c .m_Reader_is_deed) (dVar 0) (dCons (dVar 6) (dCons (dVar 2) dNil))) [6]) dNil)))))))
/-! is_leaf: 0=thing 1=known -/
def b_f_is_leaf (c c2 : CF → Fn) : SDen :=
    sNever
/-! are_names: 0=thing 1=letters 2=word -/
def b_f_are_names (c c2 : CF → Fn) : SDen :=
    sNever
/-! is_rule: 0=rules 1=number 2=rule -/
def b_f_is_rule (c c2 : CF → Fn) : SDen :=
    (sSeq (sAsg (dBin oGet (dVar 0) (dVar 1)) (gN 2))
    (sSeq (sIf (bOr (bNot (dTest (dIsi "tuple" (dVar 2)))) (bOr (dTest (dBin oNe (dFn fLen (dCons (dVar 2) dNil)) (dC (.int 3)))) (bOr (bNot (dTest (dCall 2 (c .f_are_names) (dCons (dBin oGet (dVar 2) (dC (.int 0))) (dCons (dC (.str "xyz")) dNil))))) (bNot (dTest (dCall 2 (c .f_are_names) (dCons (dBin oGet (dVar 2) (dC (.int 1))) (dCons (dC (.str "fg")) dNil)))))))) (sRet (dC (.bl false))) sNil)
    (sRet (dMeth "Reader" "is_deed" 3 (c .m_Reader_is_deed) (dMake "Reader" 3 (c2 .m_Reader_init) (dCons (dVar 0) (dCons (dVar 1) dNil))) (dCons (dBin oGet (dVar 2) (dC (.int 2))) (dCons (dFn fList (dCons (dBin oAdd (dBin oGet (dVar 2) (dC (.int 0))) (dBin oGet (dVar 2) (dC (.int 1)))) dNil)) dNil))))))
/-! is_rules: 0=thing 1=number -/
def b_f_is_rules (c c2 : CF → Fn) : SDen :=
    (sSeq (sIf (bOr (bNot (dTest (dIsi "tuple" (dVar 0)))) (dTest (dBin oGt (dFn fLen (dCons (dVar 0) dNil)) (dC (.int 4))))) (sRet (dC (.bl false))) sNil)
    (sSeq (sFor (iRange1 (dFn fLen (dCons (dVar 0) dNil))) (gN 1) (sIf (bNot (dTest (dCall 2 (c .f_is_rule) (dCons (dVar 0) (dCons (dVar 1) dNil))))) (sRet (dC (.bl false))) sNil))
    (sRet (dC (.bl true)))))
/-! is_deed: 0=rules 1=thing -/
def b_f_is_deed (c c2 : CF → Fn) : SDen :=
    (sRet (dMeth "Reader" "is_deed" 3 (c .m_Reader_is_deed) (dMake "Reader" 3 (c2 .m_Reader_init) (dCons (dVar 0) (dCons (dFn fLen (dCons (dVar 0) dNil)) dNil))) (dCons (dVar 1) (dCons (dLst dNil) dNil))))
/-! parts_of: 0=deed 1=part -/
def b_f_parts_of (c c2 : CF → Fn) : SDen :=
    (sSeq (sIf (dTest (dBin oEq (dBin oGet (dVar 0) (dC (.int 0))) (dC (.str "call")))) (sRet (dFn fList (dCons (dBin oAdd (dBin oGet (dVar 0) (dC (.int 2))) (dBin oGet (dVar 0) (dC (.int 3)))) dNil))) sNil)
    (sRet (dLc (iAny (dSl (dVar 0) (dPart (dC (.int 1))) dNoPart)) (gN 1) (dTest (dIsi "tuple" (dVar 1))) (dVar 1) [1])))
/-! size_of: 0=deed 1=part -/
def b_f_size_of (c c2 : CF → Fn) : SDen :=
    (sRet (dBin oAdd (dC (.int 1)) (dFn fSum (dCons (dLc (iAny (dCall 1 (c .f_parts_of) (dCons (dVar 0) dNil))) (gN 1) bYes (dCall 1 (c .f_size_of) (dCons (dVar 1) dNil)) [1]) dNil))))
/-! _law_cell: 0=_law_script 1=_law_k -/
def b_f__law_cell (c c2 : CF → Fn) : SDen :=
    (sSeq (sIf (dTest (dBin oEq (dVar 0) (dLst dNil))) (sRet (dBin oMul (dC (.int 7)) (dVar 1))) sNil)
    (sRet (dBin oAdd (dBin oGet (dVar 0) (dBin oMod (dVar 1) (dFn fLen (dCons (dVar 0) dNil)))) (dBin oMul (dC (.int 6553)) (dBin oDiv (dVar 1) (dFn fLen (dCons (dVar 0) dNil)))))))
/-! _law_drawn: 0=_law_script 1=_law_k 2=_law_many 3=_law_cell_here -/
def b_f__law_drawn (c c2 : CF → Fn) : SDen :=
    (sSeq (sAsg (dBin oMod (dBin oAdd (dBin oMul (dBin oMod (dCall 2 (c .f__law_cell) (dCons (dVar 0) (dCons (dVar 1) dNil))) (dC (.int 2147483563))) (dC (.int 69069))) (dBin oMul (dC (.int 104723)) (dBin oAdd (dVar 1) (dC (.int 1))))) (dC (.int 2147483563))) (gN 3))
    (sSeq (sAsg (dBin oMod (dBin oAdd (dBin oMul (dVar 3) (dVar 3)) (dBin oDiv (dVar 3) (dC (.int 3)))) (dC (.int 2147483399))) (gN 3))
    (sRet (dBin oMod (dBin oDiv (dBin oMod (dBin oAdd (dBin oMul (dVar 3) (dVar 3)) (dBin oDiv (dVar 3) (dC (.int 7)))) (dC (.int 2147483647))) (dC (.int 11))) (dVar 2)))))
/-! _law_leaf: 0=_law_script 1=_law_at 2=_law_known 3=_law_names 4=_law_owns 5=_law_handed 6=_law_way 7=_law_shelves -/
def b_f__law_leaf (c c2 : CF → Fn) : SDen :=
    (sSeq (sAsg (dVar 2) (gT 3 (gsCons (gN 3) (gsCons (gN 4) (gsCons (gN 5) gsNil)))))
    (sSeq (sAsg (dCall 3 (c .f__law_drawn) (dCons (dVar 0) (dCons (dVar 1) (dCons (dC (.int 8)) dNil)))) (gN 6))
    (sSeq (sIf (dTest (dBin oLt (dVar 6) (dC (.int 2)))) (sRet (dTup (dCons (dC (.str "number")) (dCons (dBin oGet (dLst (dCons (dC (.int 0)) (dCons (dC (.int 1)) (dCons (dC (.int 2)) (dCons (dC (.int 3)) (dCons (dC (.int 7)) (dCons (dC (.int 1008)) dNil))))))) (dCall 3 (c .f__law_drawn) (dCons (dVar 0) (dCons (dBin oAdd (dVar 1) (dC (.int 1))) (dCons (dC (.int 6)) dNil))))) dNil)))) sNil)
    (sSeq (sIf (bAnd (dTest (dBin oEq (dVar 6) (dC (.int 2)))) (dTest (dBin oNe (dVar 3) (dTup dNil)))) (sRet (dTup (dCons (dC (.str "name")) (dCons (dBin oGet (dVar 3) (dCall 3 (c .f__law_drawn) (dCons (dVar 0) (dCons (dBin oAdd (dVar 1) (dC (.int 1))) (dCons (dFn fLen (dCons (dVar 3) dNil)) dNil))))) dNil)))) sNil)
    (sSeq (sIf (bAnd (dTest (dBin oEq (dVar 6) (dC (.int 3)))) (dTest (dBin oNe (dVar 5) (dTup dNil)))) (sRet (dTup (dCons (dC (.str "do")) (dCons (dBin oGet (dVar 5) (dCall 3 (c .f__law_drawn) (dCons (dVar 0) (dCons (dBin oAdd (dVar 1) (dC (.int 1))) (dCons (dFn fLen (dCons (dVar 5) dNil)) dNil))))) dNil)))) sNil)
    (sSeq (sIf (dTest (dBin oEq (dVar 6) (dC (.int 4)))) (sRet (dTup (dCons (dC (.str "ask")) dNil))) sNil)
    (sSeq (sAsg (dBin oAdd (dTup (dCons (dC (.str "a")) (dCons (dC (.str "b")) (dCons (dC (.str "c")) (dCons (dC (.str "d")) dNil))))) (dBin oMul (dVar 4) (dC (.int 3)))) (gN 7))
    (sRet (dTup (dCons (dC (.str "read")) (dCons (dBin oGet (dVar 7) (dCall 3 (c .f__law_drawn) (dCons (dVar 0) (dCons (dBin oAdd (dVar 1) (dC (.int 1))) (dCons (dFn fLen (dCons (dVar 7) dNil)) dNil))))) dNil)))))))))))
/-! _law_deed: 0=_law_script 1=_law_at 2=_law_deep 3=_law_known 4=_law_rules_here 5=_law_way 6=_law_one 7=_law_shelves 8=_law_word 9=_law_inner 10=_law_other -/
def b_f__law_deed (c c2 : CF → Fn) : SDen :=
    (sSeq (sAsg (dCall 3 (c .f__law_drawn) (dCons (dVar 0) (dCons (dVar 1) (dCons (dC (.int 15)) dNil)))) (gN 5))
    (sSeq (sIf (bOr (dTest (dBin oEq (dVar 2) (dC (.int 0)))) (dTest (dBin oLt (dVar 5) (dC (.int 2))))) (sRet (dCall 3 (c .f__law_leaf) (dCons (dVar 0) (dCons (dBin oAdd (dVar 1) (dC (.int 1))) (dCons (dVar 3) dNil))))) sNil)
    (sSeq (sIf (bAnd (dTest (dBin oLt (dVar 5) (dC (.int 4)))) (dTest (dBin oNe (dVar 4) (dTup dNil)))) (sRet (dCall 5 (c .f__law_call) (dCons (dVar 0) (dCons (dVar 1) (dCons (dVar 2) (dCons (dVar 3) (dCons (dVar 4) dNil))))))) sNil)
    (sSeq (sAsg (dCall 5 (c .f__law_deed) (dCons (dVar 0) (dCons (dBin oAdd (dBin oMul (dVar 1) (dC (.int 3))) (dC (.int 7))) (dCons (dBin oSub (dVar 2) (dC (.int 1))) (dCons (dVar 3) (dCons (dVar 4) dNil)))))) (gN 6))
    (sSeq (sIf (dTest (dBin oLt (dVar 5) (dC (.int 6)))) (sSeq (sAsg (dBin oAdd (dTup (dCons (dC (.str "a")) (dCons (dC (.str "b")) (dCons (dC (.str "c")) (dCons (dC (.str "d")) dNil))))) (dBin oMul (dBin oGet (dVar 3) (dC (.int 1))) (dC (.int 3)))) (gN 7))
    (sRet (dTup (dCons (dC (.str "write")) (dCons (dBin oGet (dVar 7) (dCall 3 (c .f__law_drawn) (dCons (dVar 0) (dCons (dBin oAdd (dVar 1) (dC (.int 3))) (dCons (dFn fLen (dCons (dVar 7) dNil)) dNil))))) (dCons (dVar 6) dNil)))))) sNil)
    (sSeq (sIf (dTest (dBin oEq (dVar 5) (dC (.int 6)))) (sRet (dTup (dCons (dC (.str "say")) (dCons (dVar 6) dNil)))) sNil)
    (sSeq (sIf (dTest (dBin oEq (dVar 5) (dC (.int 7)))) (sSeq (sAsg (dBin oGet (dLst (dCons (dC (.str "x")) (dCons (dC (.str "y")) (dCons (dC (.str "x1")) dNil)))) (dCall 3 (c .f__law_drawn) (dCons (dVar 0) (dCons (dBin oAdd (dVar 1) (dC (.int 3))) (dCons (dC (.int 3)) dNil))))) (gN 8))
    (sRet (dTup (dCons (dC (.str "let")) (dCons (dVar 8) (dCons (dVar 6) (dCons (dCall 5 (c .f__law_deed) (dCons (dVar 0) (dCons (dBin oAdd (dBin oMul (dVar 1) (dC (.int 3))) (dC (.int 23))) (dCons (dBin oSub (dVar 2) (dC (.int 1))) (dCons (dBin oAdd (dTup (dCons (dBin oAdd (dBin oGet (dVar 3) (dC (.int 0))) (dTup (dCons (dVar 8) dNil))) dNil)) (dSl (dVar 3) (dPart (dC (.int 1))) dNoPart)) (dCons (dVar 4) dNil)))))) dNil))))))) sNil)
    (sSeq (sIf (dTest (dBin oEq (dVar 5) (dC (.int 8)))) (sSeq (sAsg (dBin oGet (dLst (dCons (dC (.str "p")) (dCons (dC (.str "q")) dNil))) (dCall 3 (c .f__law_drawn) (dCons (dVar 0) (dCons (dBin oAdd (dVar 1) (dC (.int 3))) (dCons (dC (.int 2)) dNil))))) (gN 8))
    (sSeq (sAsg (dTup (dCons (dBin oGet (dVar 3) (dC (.int 0))) (dCons (dBin oAdd (dBin oGet (dVar 3) (dC (.int 1))) (dTup (dCons (dVar 8) dNil))) (dCons (dBin oGet (dVar 3) (dC (.int 2))) dNil)))) (gN 9))
    (sRet (dTup (dCons (dC (.str "own")) (dCons (dVar 8) (dCons (dVar 6) (dCons (dCall 5 (c .f__law_deed) (dCons (dVar 0) (dCons (dBin oAdd (dBin oMul (dVar 1) (dC (.int 3))) (dC (.int 23))) (dCons (dBin oSub (dVar 2) (dC (.int 1))) (dCons (dVar 9) (dCons (dVar 4) dNil)))))) dNil)))))))) sNil)
    (sSeq (sAsg (dCall 5 (c .f__law_deed) (dCons (dVar 0) (dCons (dBin oAdd (dBin oMul (dVar 1) (dC (.int 3))) (dC (.int 41))) (dCons (dBin oSub (dVar 2) (dC (.int 1))) (dCons (dVar 3) (dCons (dVar 4) dNil)))))) (gN 10))
    (sSeq (sIf (dTest (dBin oEq (dVar 5) (dC (.int 9)))) (sRet (dTup (dCons (dC (.str "if")) (dCons (dVar 6) (dCons (dVar 10) (dCons (dCall 5 (c .f__law_deed) (dCons (dVar 0) (dCons (dBin oAdd (dBin oMul (dVar 1) (dC (.int 3))) (dC (.int 61))) (dCons (dBin oSub (dVar 2) (dC (.int 1))) (dCons (dVar 3) (dCons (dVar 4) dNil)))))) dNil)))))) sNil)
    (sRet (dBin oAdd (dBin oGet (dLst (dCons (dTup (dCons (dC (.str "then")) dNil)) (dCons (dTup (dCons (dC (.str "add")) dNil)) (dCons (dTup (dCons (dC (.str "less")) dNil)) (dCons (dTup (dCons (dC (.str "loop")) dNil)) (dCons (dTup (dCons (dC (.str "then")) dNil)) dNil)))))) (dBin oSub (dVar 5) (dC (.int 10)))) (dTup (dCons (dVar 6) (dCons (dVar 10) dNil)))))))))))))))
/-! _law_call: 0=_law_script 1=_law_at 2=_law_deep 3=_law_known 4=_law_rules_here 5=_law_number 6=_law_size 7=_law_parts 8=_law_k -/
def b_f__law_call (c c2 : CF → Fn) : SDen :=
    (sSeq (sAsg (dCall 3 (c .f__law_drawn) (dCons (dVar 0) (dCons (dBin oAdd (dVar 1) (dC (.int 3))) (dCons (dFn fLen (dCons (dVar 4) dNil)) dNil)))) (gN 5))
    (sSeq (sAsg (dFn fLen (dCons (dBin oGet (dBin oGet (dVar 4) (dVar 5)) (dC (.int 0))) dNil)) (gN 6))
    (sSeq (sAsg (dLst dNil) (gN 7))
    (sSeq (sFor (iRange1 (dBin oAdd (dVar 6) (dFn fLen (dCons (dBin oGet (dBin oGet (dVar 4) (dVar 5)) (dC (.int 1))) dNil)))) (gN 8) (sExpr (dAppend (dVar 7) (dCall 5 (c .f__law_deed) (dCons (dVar 0) (dCons (dBin oAdd (dBin oAdd (dBin oMul (dVar 1) (dC (.int 3))) (dC (.int 7))) (dBin oMul (dC (.int 5)) (dVar 8))) (dCons (dBin oSub (dVar 2) (dC (.int 1))) (dCons (dVar 3) (dCons (dVar 4) dNil)))))))))
    (sRet (dTup (dCons (dC (.str "call")) (dCons (dVar 5) (dCons (dFn fTuple (dCons (dSl (dVar 7) dNoPart (dPart (dVar 6))) dNil)) (dCons (dFn fTuple (dCons (dSl (dVar 7) (dPart (dVar 6)) dNoPart) dNil)) dNil))))))))))
/-! _law_rules: 0=_law_script 1=_law_at 2=_law_rules_here 3=_law_k 4=_law_names 5=_law_handed 6=_law_body -/
def b_f__law_rules (c c2 : CF → Fn) : SDen :=
    (sSeq (sAsg (dTup dNil) (gN 2))
    (sSeq (sFor (iRange1 (dCall 3 (c .f__law_drawn) (dCons (dVar 0) (dCons (dVar 1) (dCons (dC (.int 3)) dNil))))) (gN 3) (sSeq (sAsg (dBin oGet (dLst (dCons (dTup dNil) (dCons (dTup (dCons (dC (.str "x")) dNil)) (dCons (dTup (dCons (dC (.str "y")) (dCons (dC (.str "x")) dNil))) dNil)))) (dCall 3 (c .f__law_drawn) (dCons (dVar 0) (dCons (dBin oAdd (dBin oAdd (dVar 1) (dC (.int 1))) (dBin oMul (dC (.int 5)) (dVar 3))) (dCons (dC (.int 3)) dNil))))) (gN 4))
    (sSeq (sAsg (dBin oGet (dLst (dCons (dTup dNil) (dCons (dTup (dCons (dC (.str "f")) dNil)) (dCons (dTup (dCons (dC (.str "f")) (dCons (dC (.str "g1")) dNil))) dNil)))) (dCall 3 (c .f__law_drawn) (dCons (dVar 0) (dCons (dBin oAdd (dBin oAdd (dVar 1) (dC (.int 2))) (dBin oMul (dC (.int 5)) (dVar 3))) (dCons (dC (.int 3)) dNil))))) (gN 5))
    (sSeq (sAsg (dCall 5 (c .f__law_deed) (dCons (dVar 0) (dCons (dBin oAdd (dBin oAdd (dVar 1) (dC (.int 20))) (dBin oMul (dC (.int 7)) (dVar 3))) (dCons (dC (.int 2)) (dCons (dTup (dCons (dVar 4) (dCons (dTup dNil) (dCons (dVar 5) dNil)))) (dCons (dVar 2) dNil)))))) (gN 6))
    (sAsg (dBin oAdd (dVar 2) (dTup (dCons (dTup (dCons (dVar 4) (dCons (dVar 5) (dCons (dVar 6) dNil)))) dNil))) (gN 2))))))
    (sRet (dVar 2))))
/-! _law_store: 0=_law_script 1=_law_at 2=_law_k -/
def b_f__law_store (c c2 : CF → Fn) : SDen :=
    (sRet (dFn fTuple (dCons (dLc (iRange1 (dC (.int 4))) (gN 2) bYes (dCall 3 (c .f__law_drawn) (dCons (dVar 0) (dCons (dBin oAdd (dVar 1) (dVar 2)) (dCons (dC (.int 6)) dNil)))) [2]) dNil)))
/-! _law_asked: 0=_law_script 1=_law_at 2=_law_k -/
def b_f__law_asked (c c2 : CF → Fn) : SDen :=
    (sRet (dLc (iRange1 (dCall 3 (c .f__law_drawn) (dCons (dVar 0) (dCons (dVar 1) (dCons (dC (.int 4)) dNil))))) (gN 2) bYes (dCall 3 (c .f__law_drawn) (dCons (dVar 0) (dCons (dBin oAdd (dBin oAdd (dVar 1) (dC (.int 1))) (dVar 2)) (dCons (dC (.int 9)) dNil)))) [2]))
/-! _law_odd: 0=_law_number 1=_law_some -/
def b_f__law_odd (c c2 : CF → Fn) : SDen :=
    (sSeq (sAsg (dLst (dCons (dNeg (dC (.int 1))) (dCons (dC (.int 0)) (dCons (dC (.int 1)) (dCons (dC (.int 1008)) (dCons (dC (.int 1009)) (dCons (dC (.bl true)) (dCons (dC .non) (dCons (dC (.str "")) (dCons (dC (.str "a")) (dCons (dC (.str "x")) (dCons (dC (.str "p")) (dCons (dC (.str "f")) (dCons (dC (.str "x1")) (dCons (dC (.str "x1234")) (dCons (dC (.str "read")) (dCons (dTup dNil) (dCons (dLst dNil) (dCons (dTup (dCons (dC (.str "ask")) dNil)) dNil))))))))))))))))))) (gN 1))
    (sSeq (sAsg (dBin oAdd (dVar 1) (dLst (dCons (dTup (dCons (dC (.str "name")) (dCons (dC (.str "x")) dNil))) (dCons (dTup (dCons (dC (.str "read")) (dCons (dC (.str "a")) dNil))) (dCons (dTup (dCons (dC (.str "do")) (dCons (dC (.str "f")) dNil))) (dCons (dTup (dCons (dC (.str "call")) (dCons (dC (.int 0)) (dCons (dTup dNil) (dCons (dTup dNil) dNil))))) (dCons (dTup (dCons (dC (.str "number")) (dCons (dC (.bl true)) dNil))) (dCons (dTup (dCons (dC (.str "ask")) (dCons (dC (.int 1)) dNil))) (dCons (dC (.int 2)) dNil))))))))) (gN 1))
    (sSeq (sExpr (dAppend (dVar 1) (dTup (dCons (dC (.str "number")) (dCons (dC (.int 0)) dNil)))))
    (sRet (dBin oGet (dVar 1) (dBin oMod (dVar 0) (dC (.int 26))))))))
/-! _law_spoilt: 0=_law_thing 1=_law_number 2=_law_deep 3=_law_at 4=_law_part -/
def b_f__law_spoilt (c c2 : CF → Fn) : SDen :=
    sNever
/-! _law_is_word: 0=_law_thing 1=_law_letters 2=_law_sign -/
def b_f__law_is_word (c c2 : CF → Fn) : SDen :=
    (sSeq (sIf (bOr (bNot (dTest (dIsi "str" (dVar 0)))) (bOr (bNot (dTest (dChain oLe oLe (dC (.int 1)) (dFn fLen (dCons (dVar 0) dNil)) (dC (.int 4))))) (dTest (dBin oNotIn (dBin oGet (dVar 0) (dC (.int 0))) (dVar 1))))) (sRet (dC (.bl false))) sNil)
    (sRet (dBin oEq (dLc (iAny (dSl (dVar 0) (dPart (dC (.int 1))) dNoPart)) (gN 2) (dTest (dBin oNotIn (dVar 2) (dC (.str "0123456789")))) (dVar 2) [2]) (dLst dNil))))
/-! _law_left: 0=_law_rules_here 1=_law_below 2=_law_thing 3=_law_known 4=_law_left_here 5=_law_is_worth 6=_law_letters 7=_law_is_own -/
def b_f__law_left (c c2 : CF → Fn) : SDen :=
    sNever
/-! _law_left_of_all: 0=_law_rules_here 1=_law_below 2=_law_parts 3=_law_known 4=_law_left_here 5=_law_part -/
def b_f__law_left_of_all (c c2 : CF → Fn) : SDen :=
    (sSeq (sFor (iAny (dVar 2)) (gN 5) (sAsg (dCall 5 (c .f__law_left) (dCons (dVar 0) (dCons (dVar 1) (dCons (dVar 5) (dCons (dVar 3) (dCons (dVar 4) dNil)))))) (gN 4)))
    (sRet (dVar 4)))
/-! _law_left_of_call: 0=_law_rules_here 1=_law_below 2=_law_thing 3=_law_known 4=_law_left_here 5=_law_number -/
def b_f__law_left_of_call (c c2 : CF → Fn) : SDen :=
    (sSeq (sAsg (dBin oGet (dVar 2) (dC (.int 1))) (gN 5))
    (sSeq (sIf (bOr (bNot (dTest (dIsi "int" (dVar 5)))) (bOr (dTest (dIsi "bool" (dVar 5))) (bNot (dTest (dChain oLe oLt (dC (.int 0)) (dVar 5) (dVar 1)))))) (sRet (dNeg (dC (.int 1)))) sNil)
    (sSeq (sIf (bOr (bNot (dTest (dIsi "tuple" (dBin oGet (dVar 2) (dC (.int 2)))))) (bNot (dTest (dIsi "tuple" (dBin oGet (dVar 2) (dC (.int 3))))))) (sRet (dNeg (dC (.int 1)))) sNil)
    (sSeq (sIf (bOr (dTest (dBin oNe (dFn fLen (dCons (dBin oGet (dVar 2) (dC (.int 2))) dNil)) (dFn fLen (dCons (dBin oGet (dBin oGet (dVar 0) (dVar 5)) (dC (.int 0))) dNil)))) (dTest (dBin oNe (dFn fLen (dCons (dBin oGet (dVar 2) (dC (.int 3))) dNil)) (dFn fLen (dCons (dBin oGet (dBin oGet (dVar 0) (dVar 5)) (dC (.int 1))) dNil))))) (sRet (dNeg (dC (.int 1)))) sNil)
    (sRet (dCall 5 (c .f__law_left_of_all) (dCons (dVar 0) (dCons (dVar 1) (dCons (dBin oAdd (dBin oGet (dVar 2) (dC (.int 2))) (dBin oGet (dVar 2) (dC (.int 3)))) (dCons (dVar 3) (dCons (dVar 4) dNil)))))))))))
/-! _law_size: 0=_law_deed_here 1=_law_parts 2=_law_part -/
def b_f__law_size (c c2 : CF → Fn) : SDen :=
    (sSeq (sAsg (dLc (iAny (dSl (dVar 0) (dPart (dC (.int 1))) dNoPart)) (gN 2) (dTest (dIsi "tuple" (dVar 2))) (dVar 2) [2]) (gN 1))
    (sSeq (sIf (dTest (dBin oEq (dBin oGet (dVar 0) (dC (.int 0))) (dC (.str "call")))) (sAsg (dFn fList (dCons (dBin oAdd (dBin oGet (dVar 0) (dC (.int 2))) (dBin oGet (dVar 0) (dC (.int 3)))) dNil)) (gN 1)) sNil)
    (sRet (dBin oAdd (dC (.int 1)) (dFn fSum (dCons (dLc (iAny (dVar 1)) (gN 2) bYes (dCall 1 (c .f__law_size) (dCons (dVar 2) dNil)) [2]) dNil))))))
/-! _law_weight: 0=_law_rules_here 1=_law_deed_here 2=_law_handed 3=_law_word 4=_law_there 5=_law_parts 6=_law_inner 7=_law_one 8=_law_part -/
def b_f__law_weight (c c2 : CF → Fn) : SDen :=
    (sSeq (sAsg (dBin oGet (dVar 1) (dC (.int 0))) (gN 3))
    (sSeq (sIf (dTest (dBin oIn (dVar 3) (dTup (dCons (dC (.str "number")) (dCons (dC (.str "name")) (dCons (dC (.str "ask")) (dCons (dC (.str "read")) dNil))))))) (sRet (dC (.int 1))) sNil)
    (sSeq (sIf (dTest (dBin oEq (dVar 3) (dC (.str "do")))) (sRet (dGet2 (dVar 2) (dBin oGet (dVar 1) (dC (.int 1))) (dC (.int 1)))) sNil)
    (sSeq (sIf (dTest (dBin oEq (dVar 3) (dC (.str "call")))) (sSeq (sAsg (dFn fDict (dCons (dLc (iZipD (dBin oGet (dBin oGet (dVar 0) (dBin oGet (dVar 1) (dC (.int 1)))) (dC (.int 1))) (dBin oGet (dVar 1) (dC (.int 3)))) (gT 2 (gsCons (gN 7) (gsCons (gN 8) gsNil))) bYes (dTup (dCons (dVar 7) (dCons (dCall 3 (c .f__law_weight) (dCons (dVar 0) (dCons (dVar 8) (dCons (dVar 2) dNil)))) dNil))) [7, 8]) dNil)) (gN 4))
    (sSeq (sAsg (dFn fSum (dCons (dLc (iAny (dBin oGet (dVar 1) (dC (.int 2)))) (gN 8) bYes (dCall 3 (c .f__law_weight) (dCons (dVar 0) (dCons (dVar 8) (dCons (dVar 2) dNil)))) [8]) dNil)) (gN 5))
    (sRet (dBin oAdd (dBin oAdd (dC (.int 1)) (dVar 5)) (dCall 3 (c .f__law_weight) (dCons (dVar 0) (dCons (dBin oGet (dBin oGet (dVar 0) (dBin oGet (dVar 1) (dC (.int 1)))) (dC (.int 2))) (dCons (dVar 4) dNil)))))))) sNil)
    (sSeq (sAsg (dLc (iAny (dSl (dVar 1) (dPart (dC (.int 1))) dNoPart)) (gN 8) (dTest (dIsi "tuple" (dVar 8))) (dCall 3 (c .f__law_weight) (dCons (dVar 0) (dCons (dVar 8) (dCons (dVar 2) dNil)))) [8]) (gN 6))
    (sSeq (sIf (dTest (dBin oEq (dVar 3) (dC (.str "loop")))) (sRet (dBin oAdd (dBin oAdd (dC (.int 1)) (dBin oGet (dVar 6) (dC (.int 0)))) (dBin oMul (dC (.int 3)) (dBin oGet (dVar 6) (dC (.int 1)))))) sNil)
    (sRet (dBin oAdd (dC (.int 1)) (dFn fSum (dCons (dVar 6) dNil))))))))))
/-! _law_light: 0=_law_script 1=_law_at 2=_law_deep 3=_law_rules_here 4=_law_deed_here -/
def b_f__law_light (c c2 : CF → Fn) : SDen :=
    (sSeq (sAsg (dCall 5 (c .f__law_deed) (dCons (dVar 0) (dCons (dVar 1) (dCons (dVar 2) (dCons (dTup (dCons (dTup dNil) (dCons (dTup dNil) (dCons (dTup dNil) dNil)))) (dCons (dVar 3) dNil)))))) (gN 4))
    (sSeq (sIf (dTest (dBin oGt (dCall 3 (c .f__law_weight) (dCons (dVar 3) (dCons (dVar 4) (dCons dNewK dNil)))) (dC (.int 80)))) (sRet (dTup (dCons (dC (.str "read")) (dCons (dBin oGet (dC (.str "abcd")) (dCall 3 (c .f__law_drawn) (dCons (dVar 0) (dCons (dVar 1) (dCons (dC (.int 4)) dNil))))) dNil)))) sNil)
    (sRet (dVar 4))))
/-! _law_each: 0=_law_thing 1=_law_found 2=_law_place 3=_law_part -/
def b_f__law_each (c c2 : CF → Fn) : SDen :=
    (sSeq (sIf (dTest (dIsi "int" (dVar 0))) (sRet (dLst (dCons (dC .non) (dCons (dC (.bl true)) (dCons (dBin oSub (dVar 0) (dC (.int 1))) (dCons (dBin oAdd (dVar 0) (dC (.int 1))) (dCons (dC (.int 1000)) dNil))))))) sNil)
    (sSeq (sIf (bNot (dTest (dIsi "tuple" (dVar 0)))) (sRet (dLst (dCons (dC .non) (dCons (dC (.str "")) (dCons (dC (.str "A")) (dCons (dC (.str "then")) dNil)))))) sNil)
    (sSeq (sAsg (dLst (dCons (dC .non) (dCons (dFn fList (dCons (dVar 0) dNil)) (dCons (dBin oAdd (dVar 0) (dSl (dVar 0) (dPart (dNeg (dC (.int 1)))) dNoPart)) (dCons (dSl (dVar 0) (dPart (dC (.int 1))) dNoPart) dNil))))) (gN 1))
    (sSeq (sFor (iRange1 (dFn fLen (dCons (dVar 0) dNil))) (gN 2) (sAsg (dBin oAdd (dVar 1) (dLc (iAny (dCall 1 (c .f__law_each) (dCons (dBin oGet (dVar 0) (dVar 2)) dNil))) (gN 3) bYes (dBin oAdd (dBin oAdd (dSl (dVar 0) dNoPart (dPart (dVar 2))) (dTup (dCons (dVar 3) dNil))) (dSl (dVar 0) (dPart (dBin oAdd (dVar 2) (dC (.int 1)))) dNoPart)) [3])) (gN 1)))
    (sRet (dVar 1))))))
/-! Run.__init__: 0=self 1=rules 2=answers 3=world -/
def b_m_Run_init (c c2 : CF → Fn) : SDen :=
    (sSeq (sFldD "rules" (dVar 1) (dVar 0))
    (sSeq (sFldD "world" (dVar 3) (dVar 0))
    (sSeq (sFldD "answers" (dVar 2) (dVar 0))
    (sSeq (sFldD "place" (dC (.int 0)) (dVar 0))
    (sSeq (sFldD "wanted" (dC .non) (dVar 0))
    (sFldD "cells" (dLst dNil) (dVar 0)))))))
/-! Run.touch: 0=self 1=mark -/
def b_m_Run_touch (c c2 : CF → Fn) : SDen :=
    (sSeq (sIf (dTest (dBin oNotN (dFld "world" (dVar 0)) (dC .non))) (sRet (dMeth "World" "touched" 2 (c .m_World_touched) (dFld "world" (dVar 0)) (dCons (dVar 1) dNil))) sNil)
    (sSeq (sIf (dTest (dBin oEq (dFld "place" (dVar 0)) (dFn fLen (dCons (dFld "answers" (dVar 0)) dNil)))) (sSeq (sFldD "wanted" (dVar 1) (dVar 0))
    (sRaise "Pause")) sNil)
    (sSeq (sFldD "place" (dBin oAdd (dFld "place" (dVar 0)) (dC (.int 1))) (dVar 0))
    (sRet (dBin oGet (dFld "answers" (dVar 0)) (dBin oSub (dFld "place" (dVar 0)) (dC (.int 1))))))))
/-! Run.worth: 0=self 1=deed 2=known 3=word 4=handed 5=there -/
def b_m_Run_worth (c c2 : CF → Fn) : SDen :=
    (sSeq (sAsg (dBin oGet (dVar 1) (dC (.int 0))) (gN 3))
    (sSeq (sIf (dTest (dBin oEq (dVar 3) (dC (.str "number")))) (sRet (dBin oGet (dVar 1) (dC (.int 1)))) sNil)
    (sSeq (sIf (dTest (dBin oEq (dVar 3) (dC (.str "name")))) (sRet (dBin oGet (dVar 2) (dBin oGet (dVar 1) (dC (.int 1))))) sNil)
    (sSeq (sIf (dTest (dBin oIn (dVar 3) (dTup (dCons (dC (.str "read")) (dCons (dC (.str "write")) dNil))))) (sRet (dMeth "Run" "at_shelf" 3 (c .m_Run_at_shelf) (dVar 0) (dCons (dVar 1) (dCons (dVar 2) dNil)))) sNil)
    (sSeq (sIf (dTest (dBin oEq (dVar 3) (dC (.str "ask")))) (sRet (dMeth "Run" "touch" 2 (c .m_Run_touch) (dVar 0) (dCons (dTup (dCons (dC (.str "ask")) dNil)) dNil))) sNil)
    (sSeq (sIf (dTest (dBin oEq (dVar 3) (dC (.str "say")))) (sRet (dMeth "Run" "touch" 2 (c .m_Run_touch) (dVar 0) (dCons (dTup (dCons (dC (.str "say")) (dCons (dMeth "Run" "worth" 3 (c .m_Run_worth) (dVar 0) (dCons (dBin oGet (dVar 1) (dC (.int 1))) (dCons (dVar 2) dNil))) dNil))) dNil))) sNil)
    (sSeq (sIf (dTest (dBin oEq (dVar 3) (dC (.str "do")))) (sSeq (sAsg (dBin oGet (dVar 2) (dBin oGet (dVar 1) (dC (.int 1)))) (gT 2 (gsCons (gN 4) (gsCons (gN 5) gsNil))))
    (sRet (dMeth "Run" "worth" 3 (c .m_Run_worth) (dVar 0) (dCons (dVar 4) (dCons (dVar 5) dNil))))) sNil)
    (sSeq (sIf (dTest (dBin oIn (dVar 3) (dTup (dCons (dC (.str "call")) (dCons (dC (.str "let")) (dCons (dC (.str "own")) dNil)))))) (sRet (dMeth "Run" "with_names" 3 (c .m_Run_with_names) (dVar 0) (dCons (dVar 1) (dCons (dVar 2) dNil)))) sNil)
    (sRet (dMeth "Run" "put_together" 3 (c .m_Run_put_together) (dVar 0) (dCons (dVar 1) (dCons (dVar 2) dNil))))))))))))
/-! Run.at_shelf: 0=self 1=deed 2=known 3=where 4=worth -/
def b_m_Run_at_shelf (c c2 : CF → Fn) : SDen :=
    (sSeq (sAsg (dGet2 (dVar 2) (dBin oGet (dVar 1) (dC (.int 1))) (dBin oGet (dVar 1) (dC (.int 1)))) (gN 3))
    (sSeq (sIf (dTest (dBin oEq (dBin oGet (dVar 1) (dC (.int 0))) (dC (.str "read")))) (sRet (dIf (dTest (dIsi "str" (dVar 3))) (dMeth "Run" "touch" 2 (c .m_Run_touch) (dVar 0) (dCons (dTup (dCons (dC (.str "read")) (dCons (dVar 3) dNil))) dNil)) (dBin oGet (dFld "cells" (dVar 0)) (dVar 3)))) sNil)
    (sSeq (sAsg (dMeth "Run" "worth" 3 (c .m_Run_worth) (dVar 0) (dCons (dBin oGet (dVar 1) (dC (.int 2))) (dCons (dVar 2) dNil))) (gN 4))
    (sSeq (sIf (dTest (dIsi "str" (dVar 3))) (sRet (dMeth "Run" "touch" 2 (c .m_Run_touch) (dVar 0) (dCons (dTup (dCons (dC (.str "write")) (dCons (dVar 3) (dCons (dVar 4) dNil)))) dNil))) sNil)
    (sSeq (sPut (dFld "cells" (dVar 0)) (dVar 3) (dVar 4))
    (sRet (dVar 4)))))))
/-! Run.with_names: 0=self 1=deed 2=known 3=names 4=handed 5=body 6=there 7=worth 8=name 9=part -/
def b_m_Run_with_names (c c2 : CF → Fn) : SDen :=
    (sSeq (sIf (dTest (dBin oEq (dBin oGet (dVar 1) (dC (.int 0))) (dC (.str "call")))) (sSeq (sAsg (dBin oGet (dFld "rules" (dVar 0)) (dBin oGet (dVar 1) (dC (.int 1)))) (gT 3 (gsCons (gN 3) (gsCons (gN 4) (gsCons (gN 5) gsNil)))))
    (sSeq (sAsg (dFn fDict (dCons (dLc (iZipD (dVar 3) (dBin oGet (dVar 1) (dC (.int 2)))) (gT 2 (gsCons (gN 8) (gsCons (gN 9) gsNil))) bYes (dTup (dCons (dVar 8) (dCons (dMeth "Run" "worth" 3 (c .m_Run_worth) (dVar 0) (dCons (dVar 9) (dCons (dVar 2) dNil))) dNil))) [8, 9]) dNil)) (gN 6))
    (sSeq (sExpr (dUpd (dVar 6) (dFn fDict (dCons (dLc (iZipD (dVar 4) (dBin oGet (dVar 1) (dC (.int 3)))) (gT 2 (gsCons (gN 8) (gsCons (gN 9) gsNil))) bYes (dTup (dCons (dVar 8) (dCons (dTup (dCons (dVar 9) (dCons (dVar 2) dNil))) dNil))) [8, 9]) dNil))))
    (sRet (dMeth "Run" "worth" 3 (c .m_Run_worth) (dVar 0) (dCons (dVar 5) (dCons (dVar 6) dNil))))))) sNil)
    (sSeq (sAsg (dMeth "Run" "worth" 3 (c .m_Run_worth) (dVar 0) (dCons (dBin oGet (dVar 1) (dC (.int 2))) (dCons (dVar 2) dNil))) (gN 7))
    (sSeq (sAsg (dFn fDict (dCons (dVar 2) dNil)) (gN 6))
    (sSeq (sPut (dVar 6) (dBin oGet (dVar 1) (dC (.int 1))) (dVar 7))
    (sSeq (sIf (dTest (dBin oEq (dBin oGet (dVar 1) (dC (.int 0))) (dC (.str "own")))) (sSeq (sExpr (dAppend (dFld "cells" (dVar 0)) (dVar 7)))
    (sPut (dVar 6) (dBin oGet (dVar 1) (dC (.int 1))) (dBin oSub (dFn fLen (dCons (dFld "cells" (dVar 0)) dNil)) (dC (.int 1))))) sNil)
    (sRet (dMeth "Run" "worth" 3 (c .m_Run_worth) (dVar 0) (dCons (dBin oGet (dVar 1) (dC (.int 3))) (dCons (dVar 6) dNil)))))))))
/-! Run.put_together: 0=self 1=deed 2=known 3=word 4=first 5=turn 6=second -/
def b_m_Run_put_together (c c2 : CF → Fn) : SDen :=
    (sSeq (sAsg (dBin oGet (dVar 1) (dC (.int 0))) (gN 3))
    (sSeq (sAsg (dMeth "Run" "worth" 3 (c .m_Run_worth) (dVar 0) (dCons (dBin oGet (dVar 1) (dC (.int 1))) (dCons (dVar 2) dNil))) (gN 4))
    (sSeq (sIf (dTest (dBin oEq (dVar 3) (dC (.str "if")))) (sRet (dMeth "Run" "worth" 3 (c .m_Run_worth) (dVar 0) (dCons (dIf (dTest (dBin oNe (dVar 4) (dC (.int 0)))) (dBin oGet (dVar 1) (dC (.int 2))) (dBin oGet (dVar 1) (dC (.int 3)))) (dCons (dVar 2) dNil)))) sNil)
    (sSeq (sIf (dTest (dBin oEq (dVar 3) (dC (.str "loop")))) (sSeq (sFor (iRange1 (dBin oMod (dVar 4) (dC (.int 4)))) (gN 5) (sExpr (dMeth "Run" "worth" 3 (c .m_Run_worth) (dVar 0) (dCons (dBin oGet (dVar 1) (dC (.int 2))) (dCons (dVar 2) dNil)))))
    (sRet (dC (.int 0)))) sNil)
    (sSeq (sAsg (dMeth "Run" "worth" 3 (c .m_Run_worth) (dVar 0) (dCons (dBin oGet (dVar 1) (dC (.int 2))) (dCons (dVar 2) dNil))) (gN 6))
    (sSeq (sIf (dTest (dBin oEq (dVar 3) (dC (.str "then")))) (sRet (dVar 6)) sNil)
    (sRet (dIf (dTest (dBin oEq (dVar 3) (dC (.str "add")))) (dBin oMod (dBin oAdd (dVar 4) (dVar 6)) (dC (.int 1009))) (dFn fInt (dCons (dBin oLt (dVar 4) (dVar 6)) dNil))))))))))
/-! World.__init__: 0=self 1=store 2=asked -/
def b_m_World_init (c c2 : CF → Fn) : SDen :=
    (sSeq (sFldD "kept" (dDictZip (dC (.str "abcd")) (dVar 1)) (dVar 0))
    (sSeq (sFldD "asked" (dVar 2) (dVar 0))
    (sSeq (sFldD "many" (dC (.int 0)) (dVar 0))
    (sSeq (sFldD "spoken" (dLst dNil) (dVar 0))
    (sFldD "marks" (dLst dNil) (dVar 0))))))
/-! World.touched: 0=self 1=mark 2=answer -/
def b_m_World_touched (c c2 : CF → Fn) : SDen :=
    (sSeq (sIf (dTest (dBin oEq (dBin oGet (dVar 1) (dC (.int 0))) (dC (.str "ask")))) (sSeq (sAsg (dIf (dTest (dBin oLt (dFld "many" (dVar 0)) (dFn fLen (dCons (dFld "asked" (dVar 0)) dNil)))) (dBin oGet (dFld "asked" (dVar 0)) (dFld "many" (dVar 0))) (dC (.int 0))) (gN 2))
    (sFldD "many" (dBin oAdd (dFld "many" (dVar 0)) (dC (.int 1))) (dVar 0))) (sIf (dTest (dBin oEq (dBin oGet (dVar 1) (dC (.int 0))) (dC (.str "read")))) (sAsg (dBin oGet (dFld "kept" (dVar 0)) (dBin oGet (dVar 1) (dC (.int 1)))) (gN 2)) (sAsg (dBin oGet (dVar 1) (dNeg (dC (.int 1)))) (gN 2))))
    (sSeq (sIf (dTest (dBin oEq (dBin oGet (dVar 1) (dC (.int 0))) (dC (.str "write")))) (sPut (dFld "kept" (dVar 0)) (dBin oGet (dVar 1) (dC (.int 1))) (dVar 2)) sNil)
    (sSeq (sIf (dTest (dBin oEq (dBin oGet (dVar 1) (dC (.int 0))) (dC (.str "say")))) (sExpr (dAppend (dFld "spoken" (dVar 0)) (dVar 2))) sNil)
    (sSeq (sExpr (dAppend (dFld "marks" (dVar 0)) (dIf (dTest (dBin oIn (dBin oGet (dVar 1) (dC (.int 0))) (dTup (dCons (dC (.str "write")) (dCons (dC (.str "say")) dNil))))) (dVar 1) (dBin oAdd (dVar 1) (dTup (dCons (dVar 2) dNil))))))
    (sRet (dVar 2))))))
/-! World.shelves: 0=self 1=shelf -/
def b_m_World_shelves (c c2 : CF → Fn) : SDen :=
    (sRet (dFn fTuple (dCons (dLc (iAny (dC (.str "abcd"))) (gN 1) bYes (dBin oGet (dFld "kept" (dVar 0)) (dVar 1)) [1]) dNil)))
/-! finished: 0=rules 1=deed 2=world -/
def b_f_finished (c c2 : CF → Fn) : SDen :=
    (sRet (dMeth "Run" "worth" 3 (c .m_Run_worth) (dMake "Run" 4 (c2 .m_Run_init) (dCons (dVar 0) (dCons (dLst dNil) (dCons (dVar 2) dNil)))) (dCons (dVar 1) (dCons dNewK dNil))))
/-! run: 0=rules 1=deed 2=store 3=asked 4=world 5=worth -/
def b_f_run (c c2 : CF → Fn) : SDen :=
    (sSeq (sAsg (dMake "World" 3 (c2 .m_World_init) (dCons (dVar 2) (dCons (dVar 3) dNil))) (gN 4))
    (sSeq (sAsg (dCall 3 (c .f_finished) (dCons (dVar 0) (dCons (dVar 1) (dCons (dVar 4) dNil)))) (gN 5))
    (sRet (dTup (dCons (dVar 5) (dCons (dMeth "World" "shelves" 1 (c .m_World_shelves) (dVar 4) dNil) (dCons (dFld "spoken" (dVar 4)) (dCons (dFld "many" (dVar 4)) dNil))))))))
/-! trace: 0=rules 1=deed 2=store 3=asked 4=world -/
def b_f_trace (c c2 : CF → Fn) : SDen :=
    (sSeq (sAsg (dMake "World" 3 (c2 .m_World_init) (dCons (dVar 2) (dCons (dVar 3) dNil))) (gN 4))
    (sSeq (sExpr (dCall 3 (c .f_finished) (dCons (dVar 0) (dCons (dVar 1) (dCons (dVar 4) dNil)))))
    (sRet (dFld "marks" (dVar 4)))))
/-! _law_touch: 0=_law_state 1=_law_mark -/
def b_f__law_touch (c c2 : CF → Fn) : SDen :=
    (sSeq (sIf (dTest (dBin oEq (dBin oGet (dVar 0) (dC (.str "place"))) (dFn fLen (dCons (dBin oGet (dVar 0) (dC (.str "answers"))) dNil)))) (sSeq (sPut (dVar 0) (dC (.str "wanted")) (dVar 1))
    (sRet (dC .non))) sNil)
    (sSeq (sPut (dVar 0) (dC (.str "place")) (dBin oAdd (dBin oGet (dVar 0) (dC (.str "place"))) (dC (.int 1))))
    (sRet (dBin oGet (dBin oGet (dVar 0) (dC (.str "answers"))) (dBin oSub (dBin oGet (dVar 0) (dC (.str "place"))) (dC (.int 1)))))))
/-! _law_worth: 0=_law_rules_here 1=_law_deed_here 2=_law_known 3=_law_state 4=_law_word 5=_law_where 6=_law_first -/
def b_f__law_worth (c c2 : CF → Fn) : SDen :=
    (sSeq (sAsg (dBin oGet (dVar 1) (dC (.int 0))) (gN 4))
    (sSeq (sIf (dTest (dBin oEq (dVar 4) (dC (.str "number")))) (sRet (dBin oGet (dVar 1) (dC (.int 1)))) sNil)
    (sSeq (sIf (dTest (dBin oEq (dVar 4) (dC (.str "name")))) (sRet (dBin oGet (dVar 2) (dBin oGet (dVar 1) (dC (.int 1))))) sNil)
    (sSeq (sIf (dTest (dBin oEq (dVar 4) (dC (.str "ask")))) (sRet (dCall 2 (c .f__law_touch) (dCons (dVar 3) (dCons (dTup (dCons (dC (.str "ask")) dNil)) dNil)))) sNil)
    (sSeq (sIf (dTest (dBin oEq (dVar 4) (dC (.str "do")))) (sRet (dCall 4 (c .f__law_worth) (dCons (dVar 0) (dCons (dBin oGet (dBin oGet (dVar 2) (dBin oGet (dVar 1) (dC (.int 1)))) (dC (.int 0))) (dCons (dBin oGet (dBin oGet (dVar 2) (dBin oGet (dVar 1) (dC (.int 1)))) (dC (.int 1))) (dCons (dVar 3) dNil)))))) sNil)
    (sSeq (sIf (dTest (dBin oEq (dVar 4) (dC (.str "read")))) (sSeq (sAsg (dGet2 (dVar 2) (dBin oGet (dVar 1) (dC (.int 1))) (dBin oGet (dVar 1) (dC (.int 1)))) (gN 5))
    (sSeq (sIf (dTest (dIsi "int" (dVar 5))) (sRet (dBin oGet (dBin oGet (dVar 3) (dC (.str "cells"))) (dVar 5))) sNil)
    (sRet (dCall 2 (c .f__law_touch) (dCons (dVar 3) (dCons (dTup (dCons (dC (.str "read")) (dCons (dVar 5) dNil))) dNil)))))) sNil)
    (sSeq (sIf (dTest (dBin oEq (dVar 4) (dC (.str "call")))) (sRet (dCall 4 (c .f__law_called) (dCons (dVar 0) (dCons (dVar 1) (dCons (dVar 2) (dCons (dVar 3) dNil)))))) sNil)
    (sSeq (sAsg (dCall 4 (c .f__law_worth) (dCons (dVar 0) (dCons (dBin oGet (dVar 1) (dBin oAdd (dC (.int 1)) (dFn fInt (dCons (dBin oIn (dVar 4) (dTup (dCons (dC (.str "write")) (dCons (dC (.str "let")) (dCons (dC (.str "own")) dNil))))) dNil)))) (dCons (dVar 2) (dCons (dVar 3) dNil))))) (gN 6))
    (sSeq (sIf (dTest (dBin oIsN (dVar 6) (dC .non))) (sRet (dC .non)) sNil)
    (sRet (dCall 5 (c .f__law_behind) (dCons (dVar 0) (dCons (dVar 1) (dCons (dVar 2) (dCons (dVar 3) (dCons (dVar 6) dNil))))))))))))))))
/-! _law_called: 0=_law_rules_here 1=_law_deed_here 2=_law_known 3=_law_state 4=_law_there 5=_law_name 6=_law_part 7=_law_worth_here -/
def b_f__law_called (c c2 : CF → Fn) : SDen :=
    (sSeq (sAsg dNewK (gN 4))
    (sSeq (sFor (iZipD (dBin oGet (dBin oGet (dVar 0) (dBin oGet (dVar 1) (dC (.int 1)))) (dC (.int 0))) (dBin oGet (dVar 1) (dC (.int 2)))) (gT 2 (gsCons (gN 5) (gsCons (gN 6) gsNil))) (sSeq (sAsg (dCall 4 (c .f__law_worth) (dCons (dVar 0) (dCons (dVar 6) (dCons (dVar 2) (dCons (dVar 3) dNil))))) (gN 7))
    (sSeq (sIf (dTest (dBin oIsN (dVar 7) (dC .non))) (sRet (dC .non)) sNil)
    (sPut (dVar 4) (dVar 5) (dVar 7)))))
    (sSeq (sFor (iZipD (dBin oGet (dBin oGet (dVar 0) (dBin oGet (dVar 1) (dC (.int 1)))) (dC (.int 1))) (dBin oGet (dVar 1) (dC (.int 3)))) (gT 2 (gsCons (gN 5) (gsCons (gN 6) gsNil))) (sPut (dVar 4) (dVar 5) (dTup (dCons (dVar 6) (dCons (dVar 2) dNil)))))
    (sRet (dCall 4 (c .f__law_worth) (dCons (dVar 0) (dCons (dBin oGet (dBin oGet (dVar 0) (dBin oGet (dVar 1) (dC (.int 1)))) (dC (.int 2))) (dCons (dVar 4) (dCons (dVar 3) dNil)))))))))
/-! _law_behind: 0=_law_rules_here 1=_law_deed_here 2=_law_known 3=_law_state 4=_law_first 5=_law_word 6=_law_where 7=_law_there 8=_law_turn_here 9=_law_second -/
def b_f__law_behind (c c2 : CF → Fn) : SDen :=
    (sSeq (sAsg (dBin oGet (dVar 1) (dC (.int 0))) (gN 5))
    (sSeq (sIf (dTest (dBin oEq (dVar 5) (dC (.str "say")))) (sRet (dCall 2 (c .f__law_touch) (dCons (dVar 3) (dCons (dTup (dCons (dC (.str "say")) (dCons (dVar 4) dNil))) dNil)))) sNil)
    (sSeq (sIf (dTest (dBin oEq (dVar 5) (dC (.str "write")))) (sSeq (sAsg (dGet2 (dVar 2) (dBin oGet (dVar 1) (dC (.int 1))) (dBin oGet (dVar 1) (dC (.int 1)))) (gN 6))
    (sSeq (sIf (dTest (dIsi "str" (dVar 6))) (sRet (dCall 2 (c .f__law_touch) (dCons (dVar 3) (dCons (dTup (dCons (dC (.str "write")) (dCons (dVar 6) (dCons (dVar 4) dNil)))) dNil)))) sNil)
    (sSeq (sPut (dBin oGet (dVar 3) (dC (.str "cells"))) (dVar 6) (dVar 4))
    (sRet (dVar 4))))) sNil)
    (sSeq (sIf (dTest (dBin oIn (dVar 5) (dTup (dCons (dC (.str "let")) (dCons (dC (.str "own")) dNil))))) (sSeq (sAsg (dFn fDict (dCons (dVar 2) dNil)) (gN 7))
    (sSeq (sPut (dVar 7) (dBin oGet (dVar 1) (dC (.int 1))) (dVar 4))
    (sSeq (sIf (dTest (dBin oEq (dVar 5) (dC (.str "own")))) (sSeq (sPut (dVar 7) (dBin oGet (dVar 1) (dC (.int 1))) (dFn fLen (dCons (dBin oGet (dVar 3) (dC (.str "cells"))) dNil)))
    (sExpr (dAppend (dBin oGet (dVar 3) (dC (.str "cells"))) (dVar 4)))) sNil)
    (sRet (dCall 4 (c .f__law_worth) (dCons (dVar 0) (dCons (dBin oGet (dVar 1) (dC (.int 3))) (dCons (dVar 7) (dCons (dVar 3) dNil))))))))) sNil)
    (sSeq (sIf (dTest (dBin oEq (dVar 5) (dC (.str "if")))) (sRet (dCall 4 (c .f__law_worth) (dCons (dVar 0) (dCons (dBin oGet (dVar 1) (dBin oAdd (dC (.int 2)) (dFn fInt (dCons (dBin oEq (dVar 4) (dC (.int 0))) dNil)))) (dCons (dVar 2) (dCons (dVar 3) dNil)))))) sNil)
    (sSeq (sIf (dTest (dBin oEq (dVar 5) (dC (.str "loop")))) (sSeq (sFor (iRange1 (dBin oMod (dVar 4) (dC (.int 4)))) (gN 8) (sIf (dTest (dBin oIsN (dCall 4 (c .f__law_worth) (dCons (dVar 0) (dCons (dBin oGet (dVar 1) (dC (.int 2))) (dCons (dVar 2) (dCons (dVar 3) dNil))))) (dC .non))) (sRet (dC .non)) sNil))
    (sRet (dC (.int 0)))) sNil)
    (sSeq (sAsg (dCall 4 (c .f__law_worth) (dCons (dVar 0) (dCons (dBin oGet (dVar 1) (dC (.int 2))) (dCons (dVar 2) (dCons (dVar 3) dNil))))) (gN 9))
    (sSeq (sIf (bOr (dTest (dBin oIsN (dVar 9) (dC .non))) (dTest (dBin oEq (dVar 5) (dC (.str "then"))))) (sRet (dVar 9)) sNil)
    (sRet (dBin oGet (dLst (dCons (dBin oMod (dBin oAdd (dVar 4) (dVar 9)) (dC (.int 1009))) (dCons (dFn fInt (dCons (dBin oLt (dVar 4) (dVar 9)) dNil)) dNil))) (dFn fInt (dCons (dBin oEq (dVar 5) (dC (.str "less"))) dNil))))))))))))
/-! _law_next: 0=_law_rules_here 1=_law_deed_here 2=_law_answers 3=_law_state 4=_law_worth_here -/
def b_f__law_next (c c2 : CF → Fn) : SDen :=
    sNever
/-! _law_world: 0=_law_store_here 1=_law_asked_here -/
def b_f__law_world (c c2 : CF → Fn) : SDen :=
    sNever
/-! _law_do: 0=_law_world_here 1=_law_mark 2=_law_answer -/
def b_f__law_do (c c2 : CF → Fn) : SDen :=
    (sSeq (sAsg (dBin oGet (dVar 1) (dNeg (dC (.int 1)))) (gN 2))
    (sSeq (sIf (dTest (dBin oEq (dBin oGet (dVar 1) (dC (.int 0))) (dC (.str "ask")))) (sSeq (sAsg (dBin oGet (dBin oAdd (dBin oGet (dVar 0) (dC (.str "asked"))) (dBin oMul (dLst (dCons (dC (.int 0)) dNil)) (dBin oAdd (dBin oGet (dVar 0) (dC (.str "many"))) (dC (.int 1))))) (dBin oGet (dVar 0) (dC (.str "many")))) (gN 2))
    (sPut (dVar 0) (dC (.str "many")) (dBin oAdd (dBin oGet (dVar 0) (dC (.str "many"))) (dC (.int 1))))) sNil)
    (sSeq (sIf (dTest (dBin oEq (dBin oGet (dVar 1) (dC (.int 0))) (dC (.str "read")))) (sAsg (dBin oGet (dBin oGet (dVar 0) (dC (.str "store"))) (dBin oGet (dVar 1) (dC (.int 1)))) (gN 2)) sNil)
    (sSeq (sIf (dTest (dBin oEq (dBin oGet (dVar 1) (dC (.int 0))) (dC (.str "write")))) (sPut (dBin oGet (dVar 0) (dC (.str "store"))) (dBin oGet (dVar 1) (dC (.int 1))) (dVar 2)) sNil)
    (sSeq (sIf (dTest (dBin oEq (dBin oGet (dVar 1) (dC (.int 0))) (dC (.str "say")))) (sExpr (dAppend (dBin oGet (dVar 0) (dC (.str "said"))) (dVar 2))) sNil)
    (sSeq (sExpr (dAppend (dBin oGet (dVar 0) (dC (.str "marks"))) (dBin oGet (dLst (dCons (dVar 1) (dCons (dBin oAdd (dVar 1) (dTup (dCons (dVar 2) dNil))) dNil))) (dFn fInt (dCons (dBin oIn (dBin oGet (dVar 1) (dC (.int 0))) (dTup (dCons (dC (.str "read")) (dCons (dC (.str "ask")) dNil)))) dNil)))))
    (sRet (dVar 2))))))))
/-! _law_turn: 0=_law_rules_here 1=_law_deed_here 2=_law_answers 3=_law_world_here 4=_law_mark -/
def b_f__law_turn (c c2 : CF → Fn) : SDen :=
    (sSeq (sAsg (dBin oGet (dCall 3 (c .f__law_next) (dCons (dVar 0) (dCons (dVar 1) (dCons (dVar 2) dNil)))) (dC (.int 0))) (gN 4))
    (sSeq (sIf (dTest (dBin oIsN (dVar 4) (dC .non))) (sRet (dC (.bl false))) sNil)
    (sSeq (sExpr (dAppend (dVar 2) (dCall 2 (c .f__law_do) (dCons (dVar 3) (dCons (dVar 4) dNil)))))
    (sRet (dC (.bl true))))))
/-! _law_by: 0=_law_rules_here 1=_law_deeds 2=_law_world_here 3=_law_turns 4=_law_answers 5=_law_number 6=_law_found 7=_law_deed_here 8=_law_row 9=_law_goes_on 10=_law_shelf -/
def b_f__law_by (c c2 : CF → Fn) : SDen :=
    (sSeq (sAsg (dLc (iAny (dVar 1)) (gN 7) bYes (dLst dNil) [7]) (gN 4))
    (sSeq (sFor (iAny (dVar 3)) (gN 5) (sExpr (dCall 4 (c .f__law_turn) (dCons (dVar 0) (dCons (dBin oGet (dVar 1) (dVar 5)) (dCons (dBin oGet (dVar 4) (dVar 5)) (dCons (dVar 2) dNil)))))))
    (sSeq (sAsg (dLst dNil) (gN 6))
    (sSeq (sFor (iZipD (dVar 1) (dVar 4)) (gT 2 (gsCons (gN 7) (gsCons (gN 8) gsNil))) (sSeq (sAsg (dC (.bl true)) (gN 9))
    (sSeq (whl (dTest (dVar 9)) (sAsg (dCall 4 (c .f__law_turn) (dCons (dVar 0) (dCons (dVar 7) (dCons (dVar 8) (dCons (dVar 2) dNil))))) (gN 9)) 1000000)
    (sExpr (dAppend (dVar 6) (dBin oGet (dCall 3 (c .f__law_next) (dCons (dVar 0) (dCons (dVar 7) (dCons (dVar 8) dNil)))) (dC (.int 1))))))))
    (sRet (dTup (dCons (dVar 6) (dCons (dFn fTuple (dCons (dLc (iAny (dC (.str "abcd"))) (gN 10) bYes (dBin oGet (dBin oGet (dVar 2) (dC (.str "store"))) (dVar 10)) [10]) dNil)) (dCons (dBin oGet (dVar 2) (dC (.str "said"))) (dCons (dBin oGet (dVar 2) (dC (.str "many"))) dNil))))))))))
/-! Thread.__init__: 0=self 1=rules 2=deed -/
def b_m_Thread_init (c c2 : CF → Fn) : SDen :=
    (sSeq (sFldD "rules" (dVar 1) (dVar 0))
    (sSeq (sFldD "deed" (dVar 2) (dVar 0))
    (sSeq (sFldD "answers" (dLst dNil) (dVar 0))
    (sSeq (sFldD "mark" (dC .non) (dVar 0))
    (sSeq (sFldD "end" (dC (.int 0)) (dVar 0))
    (sExpr (dMeth "Thread" "look" 1 (c .m_Thread_look) (dVar 0) dNil)))))))
/-! Thread.look: 0=self 1=run -/
def b_m_Thread_look (c c2 : CF → Fn) : SDen :=
    sNever
/-! Thread.go: 0=self 1=world -/
def b_m_Thread_go (c c2 : CF → Fn) : SDen :=
    (sIf (dTest (dBin oNotN (dFld "mark" (dVar 0)) (dC .non))) (sSeq (sFldD "answers" (dBin oAdd (dFld "answers" (dVar 0)) (dLst (dCons (dMeth "World" "touched" 2 (c .m_World_touched) (dVar 1) (dCons (dFld "mark" (dVar 0)) dNil)) dNil))) (dVar 0))
    (sExpr (dMeth "Thread" "look" 1 (c .m_Thread_look) (dVar 0) dNil))) sNil)
/-! run_all: 0=rules 1=deeds 2=store 3=asked 4=world 5=worths 6=deed -/
def b_f_run_all (c c2 : CF → Fn) : SDen :=
    (sSeq (sAsg (dMake "World" 3 (c2 .m_World_init) (dCons (dVar 2) (dCons (dVar 3) dNil))) (gN 4))
    (sSeq (sAsg (dLc (iAny (dVar 1)) (gN 6) bYes (dCall 3 (c .f_finished) (dCons (dVar 0) (dCons (dVar 6) (dCons (dVar 4) dNil)))) [6]) (gN 5))
    (sRet (dTup (dCons (dVar 5) (dCons (dMeth "World" "shelves" 1 (c .m_World_shelves) (dVar 4) dNil) (dCons (dFld "spoken" (dVar 4)) (dCons (dFld "many" (dVar 4)) dNil))))))))
/-! run_by: 0=rules 1=deeds 2=store 3=asked 4=turns 5=world 6=threads 7=number 8=thread 9=deed -/
def b_f_run_by (c c2 : CF → Fn) : SDen :=
    (sSeq (sAsg (dMake "World" 3 (c2 .m_World_init) (dCons (dVar 2) (dCons (dVar 3) dNil))) (gN 5))
    (sSeq (sAsg (dLc (iAny (dVar 1)) (gN 9) bYes (dMake "Thread" 3 (c2 .m_Thread_init) (dCons (dVar 0) (dCons (dVar 9) dNil))) [9]) (gN 6))
    (sSeq (sFor (iAny (dVar 4)) (gN 7) (sExpr (dMeth "Thread" "go" 2 (c .m_Thread_go) (dBin oGet (dVar 6) (dVar 7)) (dCons (dVar 5) dNil))))
    (sSeq (sFor (iAny (dVar 6)) (gN 8) (whl (dTest (dBin oNotN (dFld "mark" (dVar 8)) (dC .non))) (sExpr (dMeth "Thread" "go" 2 (c .m_Thread_go) (dVar 8) (dCons (dVar 5) dNil))) 1000000))
    (sRet (dTup (dCons (dLc (iAny (dVar 6)) (gN 8) bYes (dFld "end" (dVar 8)) [8]) (dCons (dMeth "World" "shelves" 1 (c .m_World_shelves) (dVar 5) dNil) (dCons (dFld "spoken" (dVar 5)) (dCons (dFld "many" (dVar 5)) dNil))))))))))
/-! _law_quiet: 0=_law_script 1=_law_at 2=_law_some 3=_law_one 4=_law_other 5=_law_ways -/
def b_f__law_quiet (c c2 : CF → Fn) : SDen :=
    (sSeq (sAsg (dLst (dCons (dTup (dCons (dC (.str "read")) (dCons (dBin oGet (dC (.str "abcd")) (dCall 3 (c .f__law_drawn) (dCons (dVar 0) (dCons (dBin oAdd (dVar 1) (dC (.int 1))) (dCons (dC (.int 4)) dNil))))) dNil))) (dCons (dTup (dCons (dC (.str "number")) (dCons (dCall 3 (c .f__law_drawn) (dCons (dVar 0) (dCons (dBin oAdd (dVar 1) (dC (.int 2))) (dCons (dC (.int 1009)) dNil)))) dNil))) dNil))) (gN 2))
    (sSeq (sAsg (dBin oGet (dVar 2) (dCall 3 (c .f__law_drawn) (dCons (dVar 0) (dCons (dBin oAdd (dVar 1) (dC (.int 3))) (dCons (dC (.int 2)) dNil))))) (gN 3))
    (sSeq (sAsg (dBin oGet (dVar 2) (dCall 3 (c .f__law_drawn) (dCons (dVar 0) (dCons (dBin oAdd (dVar 1) (dC (.int 4))) (dCons (dC (.int 2)) dNil))))) (gN 4))
    (sSeq (sAsg (dLst (dCons (dVar 3) (dCons (dTup (dCons (dC (.str "add")) (dCons (dVar 3) (dCons (dVar 4) dNil)))) (dCons (dTup (dCons (dC (.str "own")) (dCons (dC (.str "p")) (dCons (dVar 3) (dCons (dTup (dCons (dC (.str "write")) (dCons (dC (.str "p")) (dCons (dTup (dCons (dC (.str "add")) (dCons (dTup (dCons (dC (.str "read")) (dCons (dC (.str "p")) dNil))) (dCons (dVar 4) dNil)))) dNil)))) dNil))))) dNil)))) (gN 5))
    (sSeq (sAsg (dBin oAdd (dVar 5) (dLst (dCons (dTup (dCons (dC (.str "let")) (dCons (dC (.str "x")) (dCons (dVar 3) (dCons (dTup (dCons (dC (.str "add")) (dCons (dTup (dCons (dC (.str "name")) (dCons (dC (.str "x")) dNil))) (dCons (dTup (dCons (dC (.str "name")) (dCons (dC (.str "x")) dNil))) dNil)))) dNil))))) (dCons (dTup (dCons (dC (.str "if")) (dCons (dVar 3) (dCons (dVar 4) (dCons (dTup (dCons (dC (.str "number")) (dCons (dC (.int 4)) dNil))) dNil))))) dNil)))) (gN 5))
    (sRet (dBin oGet (dVar 5) (dCall 3 (c .f__law_drawn) (dCons (dVar 0) (dCons (dVar 1) (dCons (dC (.int 5)) dNil)))))))))))
/-! marks_of: 0=rules 1=deed 2=word 3=found 4=inner 5=part 6=mark -/
def b_f_marks_of (c c2 : CF → Fn) : SDen :=
    (sSeq (sAsg (dBin oGet (dVar 1) (dC (.int 0))) (gN 2))
    (sSeq (sAsg (dLst dNil) (gN 3))
    (sSeq (sIf (dTest (dBin oIn (dVar 2) (dTup (dCons (dC (.str "read")) (dCons (dC (.str "write")) (dCons (dC (.str "do")) dNil)))))) (sAsg (dLst (dCons (dTup (dCons (dVar 2) (dCons (dBin oGet (dVar 1) (dC (.int 1))) dNil))) dNil)) (gN 3)) sNil)
    (sSeq (sIf (dTest (dBin oIn (dVar 2) (dTup (dCons (dC (.str "say")) (dCons (dC (.str "ask")) dNil))))) (sAsg (dLst (dCons (dTup (dCons (dVar 2) dNil)) dNil)) (gN 3)) sNil)
    (sSeq (sIf (dTest (dBin oEq (dVar 2) (dC (.str "call")))) (sRet (dCall 2 (c .f_call_marks) (dCons (dVar 0) (dCons (dVar 1) dNil)))) sNil)
    (sSeq (sIf (dTest (dBin oEq (dVar 2) (dC (.str "own")))) (sSeq (sAsg (dLc (iAny (dCall 2 (c .f_marks_of) (dCons (dVar 0) (dCons (dBin oGet (dVar 1) (dC (.int 3))) dNil)))) (gN 6) (dTest (dBin oNotIn (dVar 6) (dTup (dCons (dTup (dCons (dC (.str "read")) (dCons (dBin oGet (dVar 1) (dC (.int 1))) dNil))) (dCons (dTup (dCons (dC (.str "write")) (dCons (dBin oGet (dVar 1) (dC (.int 1))) dNil))) dNil))))) (dVar 6) [6]) (gN 4))
    (sRet (dCall 1 (c .f_once) (dCons (dBin oAdd (dCall 2 (c .f_marks_of) (dCons (dVar 0) (dCons (dBin oGet (dVar 1) (dC (.int 2))) dNil))) (dVar 4)) dNil)))) sNil)
    (sSeq (sFor (iAny (dCall 1 (c .f_parts_of) (dCons (dVar 1) dNil))) (gN 5) (sAsg (dBin oAdd (dVar 3) (dCall 2 (c .f_marks_of) (dCons (dVar 0) (dCons (dVar 5) dNil)))) (gN 3)))
    (sRet (dCall 1 (c .f_once) (dCons (dVar 3) dNil))))))))))
/-! once: 0=marks -/
def b_f_once (c c2 : CF → Fn) : SDen :=
    sNever
/-! call_marks: 0=rules 1=deed 2=names 3=handed 4=body 5=found 6=part 7=mark -/
def b_f_call_marks (c c2 : CF → Fn) : SDen :=
    sNever
/-! touches: 0=rules 1=deed -/
def b_f_touches (c c2 : CF → Fn) : SDen :=
    (sRet (dCall 2 (c .f_marks_of) (dCons (dVar 0) (dCons (dVar 1) dNil))))
/-! rule_touches: 0=rules 1=number -/
def b_f_rule_touches (c c2 : CF → Fn) : SDen :=
    (sRet (dCall 2 (c .f_marks_of) (dCons (dVar 0) (dCons (dBin oGet (dBin oGet (dVar 0) (dVar 1)) (dC (.int 2))) dNil))))
/-! shelves_of: 0=marks 1=word 2=mark -/
def b_f_shelves_of (c c2 : CF → Fn) : SDen :=
    (sRet (dLc (iAny (dVar 0)) (gN 2) (dTest (dBin oEq (dBin oGet (dVar 2) (dC (.int 0))) (dVar 1))) (dBin oGet (dVar 2) (dC (.int 1))) [2]))
/-! reads_of: 0=rules 1=deed -/
def b_f_reads_of (c c2 : CF → Fn) : SDen :=
    (sRet (dCall 2 (c .f_shelves_of) (dCons (dCall 2 (c .f_touches) (dCons (dVar 0) (dCons (dVar 1) dNil))) (dCons (dC (.str "read")) dNil))))
/-! writes_of: 0=rules 1=deed -/
def b_f_writes_of (c c2 : CF → Fn) : SDen :=
    (sRet (dCall 2 (c .f_shelves_of) (dCons (dCall 2 (c .f_touches) (dCons (dVar 0) (dCons (dVar 1) dNil))) (dCons (dC (.str "write")) dNil))))
/-! is_quiet_by: 0=marks 1=mark -/
def b_f_is_quiet_by (c c2 : CF → Fn) : SDen :=
    (sRet (dFn fAll (dCons (dLc (iAny (dVar 0)) (gN 1) bYes (dBin oEq (dBin oGet (dVar 1) (dC (.int 0))) (dC (.str "read"))) [1]) dNil)))
/-! is_quiet: 0=rules 1=deed -/
def b_f_is_quiet (c c2 : CF → Fn) : SDen :=
    (sRet (dCall 1 (c .f_is_quiet_by) (dCons (dCall 2 (c .f_touches) (dCons (dVar 0) (dCons (dVar 1) dNil))) dNil)))
/-! untouched: 0=rules 1=deed 2=met 3=mark 4=shelf -/
def b_f_untouched (c c2 : CF → Fn) : SDen :=
    (sSeq (sAsg (dLc (iAny (dCall 2 (c .f_touches) (dCons (dVar 0) (dCons (dVar 1) dNil)))) (gN 3) (dTest (dBin oEq (dFn fLen (dCons (dVar 3) dNil)) (dC (.int 2)))) (dBin oGet (dVar 3) (dC (.int 1))) [3]) (gN 2))
    (sRet (dLc (iAny (dC (.str "abcd"))) (gN 4) (dTest (dBin oNotIn (dVar 4) (dVar 2))) (dVar 4) [4])))
/-! _law_marks: 0=_law_rules_here 1=_law_deed_here 2=_law_found 3=_law_part 4=_law_mark 5=_law_at 6=_law_inner -/
def b_f__law_marks (c c2 : CF → Fn) : SDen :=
    sNever
/-! is_met: 0=mark 1=marks -/
def b_f_is_met (c c2 : CF → Fn) : SDen :=
    (sSeq (sIf (dTest (dBin oIn (dBin oGet (dVar 0) (dC (.int 0))) (dTup (dCons (dC (.str "say")) (dCons (dC (.str "ask")) dNil))))) (sRet (dBin oIn (dVar 0) (dVar 1))) sNil)
    (sSeq (sIf (dTest (dBin oEq (dBin oGet (dVar 0) (dC (.int 0))) (dC (.str "write")))) (sRet (dOrV (dBin oIn (dTup (dCons (dC (.str "read")) (dCons (dBin oGet (dVar 0) (dC (.int 1))) dNil))) (dVar 1)) (dBin oIn (dTup (dCons (dC (.str "write")) (dCons (dBin oGet (dVar 0) (dC (.int 1))) dNil))) (dVar 1)))) sNil)
    (sRet (dBin oIn (dTup (dCons (dC (.str "write")) (dCons (dBin oGet (dVar 0) (dC (.int 1))) dNil))) (dVar 1)))))
/-! clash: 0=rules 1=one 2=other 3=mine 4=yours 5=mark -/
def b_f_clash (c c2 : CF → Fn) : SDen :=
    sNever
/-! may_go: 0=rules 1=one 2=other -/
def b_f_may_go (c c2 : CF → Fn) : SDen :=
    (sRet (dBin oEq (dCall 3 (c .f_clash) (dCons (dVar 0) (dCons (dVar 1) (dCons (dVar 2) dNil)))) (dLst dNil)))
/-! run_in: 0=rules 1=deeds 2=order 3=store 4=asked 5=worths 6=shelves 7=said 8=many 9=by_number 10=number -/
def b_f_run_in (c c2 : CF → Fn) : SDen :=
    sNever
/-! order_matters: 0=rules 1=one 2=other 3=store 4=asked -/
def b_f_order_matters (c c2 : CF → Fn) : SDen :=
    (sRet (dBin oNe (dCall 5 (c .f_run_in) (dCons (dVar 0) (dCons (dLst (dCons (dVar 1) (dCons (dVar 2) dNil))) (dCons (dLst (dCons (dC (.int 0)) (dCons (dC (.int 1)) dNil))) (dCons (dVar 3) (dCons (dVar 4) dNil)))))) (dCall 5 (c .f_run_in) (dCons (dVar 0) (dCons (dLst (dCons (dVar 1) (dCons (dVar 2) dNil))) (dCons (dLst (dCons (dC (.int 1)) (dCons (dC (.int 0)) dNil))) (dCons (dVar 3) (dCons (dVar 4) dNil))))))))
/-! is_mark: 0=thing 1=handed -/
def b_f_is_mark (c c2 : CF → Fn) : SDen :=
    (sSeq (sIf (bOr (bNot (dTest (dIsi "tuple" (dVar 0)))) (bOr (dTest (dBin oEq (dFn fLen (dCons (dVar 0) dNil)) (dC (.int 0)))) (bNot (dTest (dIsi "str" (dBin oGet (dVar 0) (dC (.int 0)))))))) (sRet (dC (.bl false))) sNil)
    (sSeq (sIf (dTest (dBin oIn (dBin oGet (dVar 0) (dC (.int 0))) (dTup (dCons (dC (.str "say")) (dCons (dC (.str "ask")) dNil))))) (sRet (dBin oEq (dFn fLen (dCons (dVar 0) dNil)) (dC (.int 1)))) sNil)
    (sSeq (sIf (bOr (dTest (dBin oNe (dFn fLen (dCons (dVar 0) dNil)) (dC (.int 2)))) (bNot (dTest (dIsi "str" (dBin oGet (dVar 0) (dC (.int 1))))))) (sRet (dC (.bl false))) sNil)
    (sSeq (sIf (dTest (dBin oEq (dBin oGet (dVar 0) (dC (.int 0))) (dC (.str "do")))) (sRet (dAndV (dCall 2 (c .f_is_word) (dCons (dBin oGet (dVar 0) (dC (.int 1))) (dCons (dC (.str "fg")) dNil))) (dBin oIn (dBin oGet (dVar 0) (dC (.int 1))) (dVar 1)))) sNil)
    (sRet (dAndV (dBin oIn (dBin oGet (dVar 0) (dC (.int 0))) (dTup (dCons (dC (.str "read")) (dCons (dC (.str "write")) dNil)))) (dAndV (dBin oEq (dFn fLen (dCons (dBin oGet (dVar 0) (dC (.int 1))) dNil)) (dC (.int 1))) (dBin oIn (dBin oGet (dVar 0) (dC (.int 1))) (dC (.str "abcd"))))))))))
/-! is_kind: 0=thing 1=handed 2=mark 3=one 4=other -/
def b_f_is_kind (c c2 : CF → Fn) : SDen :=
    (sSeq (sIf (bOr (bNot (dTest (dIsi "list" (dVar 0)))) (bNot (dTest (dFn fAll (dCons (dLc (iAny (dVar 0)) (gN 2) bYes (dCall 2 (c .f_is_mark) (dCons (dVar 2) (dCons (dVar 1) dNil))) [2]) dNil))))) (sRet (dC (.bl false))) sNil)
    (sRet (dFn fAll (dCons (dLc (iZipD (dVar 0) (dSl (dVar 0) (dPart (dC (.int 1))) dNoPart)) (gT 2 (gsCons (gN 3) (gsCons (gN 4) gsNil))) bYes (dBin oLt (dVar 3) (dVar 4)) [3, 4]) dNil))))
/-! is_less: 0=one 1=other 2=mark -/
def b_f_is_less (c c2 : CF → Fn) : SDen :=
    (sRet (dFn fAll (dCons (dLc (iAny (dVar 0)) (gN 2) bYes (dBin oIn (dVar 2) (dVar 1)) [2]) dNil)))
/-! joined: 0=one 1=other -/
def b_f_joined (c c2 : CF → Fn) : SDen :=
    (sRet (dCall 1 (c .f_once) (dCons (dBin oAdd (dVar 0) (dVar 1)) dNil)))
/-! both_of: 0=one 1=other 2=mark -/
def b_f_both_of (c c2 : CF → Fn) : SDen :=
    (sRet (dLc (iAny (dVar 0)) (gN 2) (dTest (dBin oIn (dVar 2) (dVar 1))) (dVar 2) [2]))
/-! _law_is_mark: 0=_law_thing 1=_law_handed -/
def b_f__law_is_mark (c c2 : CF → Fn) : SDen :=
    (sSeq (sIf (bOr (bNot (dTest (dIsi "tuple" (dVar 0)))) (dTest (dBin oIn (dVar 0) (dTup (dCons (dTup (dCons (dC (.str "say")) dNil)) (dCons (dTup (dCons (dC (.str "ask")) dNil)) dNil)))))) (sRet (dIsi "tuple" (dVar 0))) sNil)
    (sSeq (sIf (bOr (dTest (dBin oNe (dFn fLen (dCons (dVar 0) dNil)) (dC (.int 2)))) (bOr (bNot (dTest (dIsi "str" (dBin oGet (dVar 0) (dC (.int 0)))))) (bNot (dTest (dIsi "str" (dBin oGet (dVar 0) (dC (.int 1)))))))) (sRet (dC (.bl false))) sNil)
    (sSeq (sIf (dTest (dBin oEq (dBin oGet (dVar 0) (dC (.int 0))) (dC (.str "do")))) (sRet (dBin oIn (dBin oGet (dVar 0) (dC (.int 1))) (dVar 1))) sNil)
    (sRet (dAndV (dBin oIn (dBin oGet (dVar 0) (dC (.int 0))) (dTup (dCons (dC (.str "read")) (dCons (dC (.str "write")) dNil)))) (dBin oIn (dBin oGet (dVar 0) (dC (.int 1))) (dTup (dCons (dC (.str "a")) (dCons (dC (.str "b")) (dCons (dC (.str "c")) (dCons (dC (.str "d")) dNil)))))))))))
/-! _law_is_kind: 0=_law_thing 1=_law_handed 2=_law_mark -/
def b_f__law_is_kind (c c2 : CF → Fn) : SDen :=
    sNever
/-! _law_kind: 0=_law_script 1=_law_at 2=_law_handed 3=_law_every 4=_law_shelf 5=_law_word 6=_law_k 7=_law_mark -/
def b_f__law_kind (c c2 : CF → Fn) : SDen :=
    sNever
/-! fits: 0=rules 1=deed 2=kind -/
def b_f_fits (c c2 : CF → Fn) : SDen :=
    (sRet (dCall 2 (c .f_is_less) (dCons (dCall 2 (c .f_touches) (dCons (dVar 0) (dCons (dVar 1) dNil))) (dCons (dVar 2) dNil))))
/-! too_much: 0=rules 1=deed 2=kind 3=mark -/
def b_f_too_much (c c2 : CF → Fn) : SDen :=
    (sRet (dLc (iAny (dCall 2 (c .f_touches) (dCons (dVar 0) (dCons (dVar 1) dNil)))) (gN 3) (dTest (dBin oNotIn (dVar 3) (dVar 2))) (dVar 3) [3]))
/-! least_kinds: 0=rules 1=number -/
def b_f_least_kinds (c c2 : CF → Fn) : SDen :=
    (sRet (dLc (iRange1 (dFn fLen (dCons (dVar 0) dNil))) (gN 1) bYes (dCall 2 (c .f_rule_touches) (dCons (dVar 0) (dCons (dVar 1) dNil))) [1]))
/-! need_kinds: 0=rules 1=kinds 2=rule 3=kind -/
def b_f_need_kinds (c c2 : CF → Fn) : SDen :=
    (sSeq (sIf (dTest (dBin oNe (dFn fLen (dCons (dVar 1) dNil)) (dFn fLen (dCons (dVar 0) dNil)))) (sRaise "BadKinds") sNil)
    (sFor (iZipD (dVar 0) (dVar 1)) (gT 2 (gsCons (gN 2) (gsCons (gN 3) gsNil))) (sIf (bNot (dTest (dCall 2 (c .f_is_kind) (dCons (dVar 3) (dCons (dBin oGet (dVar 2) (dC (.int 1))) dNil))))) (sRaise "BadKinds") sNil)))
/-! first_fault: 0=rules 1=kinds 2=number 3=kind 4=more 5=mark -/
def b_f_first_fault (c c2 : CF → Fn) : SDen :=
    (sSeq (sExpr (dCall 2 (c .f_need_kinds) (dCons (dVar 0) (dCons (dVar 1) dNil))))
    (sSeq (sFor (iEnumD (dVar 1)) (gT 2 (gsCons (gN 2) (gsCons (gN 3) gsNil))) (sSeq (sAsg (dLc (iAny (dCall 2 (c .f_rule_touches) (dCons (dVar 0) (dCons (dVar 2) dNil)))) (gN 5) (dTest (dBin oNotIn (dVar 5) (dVar 3))) (dVar 5) [5]) (gN 4))
    (sIf (dTest (dBin oNe (dVar 4) (dLst dNil))) (sRet (dTup (dCons (dVar 2) (dCons (dVar 4) dNil)))) sNil)))
    (sRet (dC .non))))
/-! told_touches: 0=rules 1=kinds 2=deed -/
def b_f_told_touches (c c2 : CF → Fn) : SDen :=
    (sSeq (sExpr (dCall 2 (c .f_need_kinds) (dCons (dVar 0) (dCons (dVar 1) dNil))))
    (sRet (dCall 3 (c .f_told_marks) (dCons (dVar 0) (dCons (dVar 1) (dCons (dVar 2) dNil))))))
/-! told_marks: 0=rules 1=kinds 2=deed 3=own 4=inner 5=found 6=part 7=mark -/
def b_f_told_marks (c c2 : CF → Fn) : SDen :=
    sNever
/-! _law_told_marks: 0=_law_rules_here 1=_law_kinds 2=_law_deed_here 3=_law_found 4=_law_part 5=_law_mark 6=_law_at 7=_law_inner -/
def b_f__law_told_marks (c c2 : CF → Fn) : SDen :=
    sNever
/-! _law_asked_so: 0=_law_way 1=_law_rules_here 2=_law_kinds 3=_law_deed_here 4=e 5=_law_flags -/
def b_f__law_asked_so (c c2 : CF → Fn) : SDen :=
    sNever
/-! _law_clash: 0=_law_one 1=_law_other 2=_law_found 3=_law_mine 4=_law_yours 5=_law_mark 6=_law_more -/
def b_f__law_clash (c c2 : CF → Fn) : SDen :=
    sNever
/-! words_in: 0=deed 1=found 2=part -/
def b_f_words_in (c c2 : CF → Fn) : SDen :=
    (sSeq (sAsg (dLc (iAny (dSl (dVar 0) (dPart (dC (.int 1))) dNoPart)) (gN 2) (dTest (dIsi "str" (dVar 2))) (dVar 2) [2]) (gN 1))
    (sSeq (sFor (iAny (dCall 1 (c .f_parts_of) (dCons (dVar 0) dNil))) (gN 2) (sAsg (dBin oAdd (dVar 1) (dCall 1 (c .f_words_in) (dCons (dVar 2) dNil))) (gN 1)))
    (sRet (dVar 1))))
/-! with_words: 0=deed 1=words 2=inner 3=worths 4=word 5=part -/
def b_f_with_words (c c2 : CF → Fn) : SDen :=
    (sSeq (sIf (dTest (dBin oIn (dBin oGet (dVar 0) (dC (.int 0))) (dTup (dCons (dC (.str "let")) (dCons (dC (.str "own")) dNil))))) (sSeq (sAsg (dFn fDict (dCons (dLc (iAny (dVar 1)) (gN 4) (dTest (dBin oNe (dVar 4) (dBin oGet (dVar 0) (dC (.int 1))))) (dTup (dCons (dVar 4) (dCons (dBin oGet (dVar 1) (dVar 4)) dNil))) [4]) dNil)) (gN 2))
    (sRet (dTup (dCons (dBin oGet (dVar 0) (dC (.int 0))) (dCons (dBin oGet (dVar 0) (dC (.int 1))) (dCons (dCall 2 (c .f_with_words) (dCons (dBin oGet (dVar 0) (dC (.int 2))) (dCons (dVar 1) dNil))) (dCons (dCall 2 (c .f_with_words) (dCons (dBin oGet (dVar 0) (dC (.int 3))) (dCons (dVar 2) dNil))) dNil))))))) sNil)
    (sSeq (sIf (dTest (dBin oEq (dBin oGet (dVar 0) (dC (.int 0))) (dC (.str "call")))) (sSeq (sAsg (dFn fTuple (dCons (dLc (iAny (dBin oGet (dVar 0) (dC (.int 2)))) (gN 5) bYes (dCall 2 (c .f_with_words) (dCons (dVar 5) (dCons (dVar 1) dNil))) [5]) dNil)) (gN 3))
    (sRet (dTup (dCons (dC (.str "call")) (dCons (dBin oGet (dVar 0) (dC (.int 1))) (dCons (dVar 3) (dCons (dFn fTuple (dCons (dLc (iAny (dBin oGet (dVar 0) (dC (.int 3)))) (gN 5) bYes (dCall 2 (c .f_with_words) (dCons (dVar 5) (dCons (dVar 1) dNil))) [5]) dNil)) dNil))))))) sNil)
    (sRet (dBin oAdd (dTup (dCons (dBin oGet (dVar 0) (dC (.int 0))) dNil)) (dFn fTuple (dCons (dLc (iAny (dSl (dVar 0) (dPart (dC (.int 1))) dNoPart)) (gN 5) bYes (dCall 2 (c .f_changed) (dCons (dVar 5) (dCons (dVar 1) dNil))) [5]) dNil))))))
/-! changed: 0=part 1=words -/
def b_f_changed (c c2 : CF → Fn) : SDen :=
    (sSeq (sIf (dTest (dIsi "tuple" (dVar 0))) (sRet (dCall 2 (c .f_with_words) (dCons (dVar 0) (dCons (dVar 1) dNil)))) sNil)
    (sRet (dIf (dTest (dIsi "str" (dVar 0))) (dGet2 (dVar 1) (dVar 0) (dVar 0)) (dVar 0))))
/-! with_handed: 0=deed 1=handed 2=worths 3=part -/
def b_f_with_handed (c c2 : CF → Fn) : SDen :=
    (sSeq (sIf (dTest (dBin oEq (dBin oGet (dVar 0) (dC (.int 0))) (dC (.str "do")))) (sRet (dGet2 (dVar 1) (dBin oGet (dVar 0) (dC (.int 1))) (dVar 0))) sNil)
    (sSeq (sIf (dTest (dBin oEq (dBin oGet (dVar 0) (dC (.int 0))) (dC (.str "call")))) (sSeq (sAsg (dFn fTuple (dCons (dLc (iAny (dBin oGet (dVar 0) (dC (.int 2)))) (gN 3) bYes (dCall 2 (c .f_with_handed) (dCons (dVar 3) (dCons (dVar 1) dNil))) [3]) dNil)) (gN 2))
    (sRet (dTup (dCons (dC (.str "call")) (dCons (dBin oGet (dVar 0) (dC (.int 1))) (dCons (dVar 2) (dCons (dFn fTuple (dCons (dLc (iAny (dBin oGet (dVar 0) (dC (.int 3)))) (gN 3) bYes (dCall 2 (c .f_with_handed) (dCons (dVar 3) (dCons (dVar 1) dNil))) [3]) dNil)) dNil))))))) sNil)
    (sRet (dBin oAdd (dTup (dCons (dBin oGet (dVar 0) (dC (.int 0))) dNil)) (dFn fTuple (dCons (dLc (iAny (dSl (dVar 0) (dPart (dC (.int 1))) dNoPart)) (gN 3) bYes (dIf (dTest (dIsi "tuple" (dVar 3))) (dCall 2 (c .f_with_handed) (dCons (dVar 3) (dCons (dVar 1) dNil))) (dVar 3)) [3]) dNil))))))
/-! Names.__init__: 0=self 1=taken -/
def b_m_Names_init (c c2 : CF → Fn) : SDen :=
    (sSeq (sFldD "taken" (dVar 1) (dVar 0))
    (sFldD "many" (dC (.int 0)) (dVar 0)))
/-! Names.fresh: 0=self 1=letter -/
def b_m_Names_fresh (c c2 : CF → Fn) : SDen :=
    (sSeq (whl (dTest (dBin oIn (dBin oAdd (dVar 1) (dFn fStrI (dCons (dFld "many" (dVar 0)) dNil))) (dFld "taken" (dVar 0)))) (sFldD "many" (dBin oAdd (dFld "many" (dVar 0)) (dC (.int 1))) (dVar 0)) 1000000)
    (sSeq (sFldD "many" (dBin oAdd (dFld "many" (dVar 0)) (dC (.int 1))) (dVar 0))
    (sRet (dBin oAdd (dVar 1) (dFn fStrI (dCons (dBin oSub (dFld "many" (dVar 0)) (dC (.int 1))) dNil))))))
/-! Names.renewed: 0=self 1=deed 2=word 3=body 4=worths 5=part -/
def b_m_Names_renewed (c c2 : CF → Fn) : SDen :=
    sNever
/-! put_in: 0=rules 1=deed 2=taken 3=names 4=handed 5=body -/
def b_f_put_in (c c2 : CF → Fn) : SDen :=
    (sSeq (sAsg (dCall 1 (c .f_words_in) (dCons (dVar 1) dNil)) (gN 2))
    (sSeq (sFor (iAny (dVar 0)) (gT 3 (gsCons (gN 3) (gsCons (gN 4) (gsCons (gN 5) gsNil)))) (sAsg (dBin oAdd (dVar 2) (dCall 1 (c .f_words_in) (dCons (dVar 5) dNil))) (gN 2)))
    (sRet (dCall 3 (c .f_without_calls) (dCons (dVar 0) (dCons (dVar 1) (dCons (dMake "Names" 2 (c2 .m_Names_init) (dCons (dVar 2) dNil)) dNil)))))))
/-! without_calls: 0=rules 1=deed 2=names 3=rest 4=given 5=handed 6=body 7=inner 8=words 9=parts 10=name 11=part -/
def b_f_without_calls (c c2 : CF → Fn) : SDen :=
    sNever
/-! all_may_go: 0=rules 1=deeds 2=at 3=one 4=other -/
def b_f_all_may_go (c c2 : CF → Fn) : SDen :=
    (sSeq (sFor (iEnumD (dVar 1)) (gT 2 (gsCons (gN 2) (gsCons (gN 3) gsNil))) (sIf (bNot (dTest (dFn fAll (dCons (dLc (iAny (dSl (dVar 1) (dPart (dBin oAdd (dVar 2) (dC (.int 1)))) dNoPart)) (gN 4) bYes (dCall 3 (c .f_may_go) (dCons (dVar 0) (dCons (dVar 3) (dCons (dVar 4) dNil)))) [4]) dNil)))) (sRet (dC (.bl false))) sNil))
    (sRet (dC (.bl true))))
/-! clashing: 0=rules 1=deeds 2=found 3=at 4=one 5=to -/
def b_f_clashing (c c2 : CF → Fn) : SDen :=
    (sSeq (sAsg (dLst dNil) (gN 2))
    (sSeq (sFor (iEnumD (dVar 1)) (gT 2 (gsCons (gN 3) (gsCons (gN 4) gsNil))) (sExpr (dExtend (dVar 2) (dLc (iRange2 (dBin oAdd (dVar 3) (dC (.int 1))) (dFn fLen (dCons (dVar 1) dNil))) (gN 5) (bNot (dTest (dCall 3 (c .f_may_go) (dCons (dVar 0) (dCons (dVar 4) (dCons (dBin oGet (dVar 1) (dVar 5)) dNil)))))) (dTup (dCons (dVar 3) (dCons (dVar 5) dNil))) [5]))))
    (sRet (dVar 2))))
/-! goes_twice: 0=rules 1=deed 2=marks 3=mark -/
def b_f_goes_twice (c c2 : CF → Fn) : SDen :=
    (sSeq (sAsg (dCall 2 (c .f_touches) (dCons (dVar 0) (dCons (dVar 1) dNil))) (gN 2))
    (sSeq (sIf (bOr (dTest (dBin oIn (dTup (dCons (dC (.str "say")) dNil)) (dVar 2))) (dTest (dBin oIn (dTup (dCons (dC (.str "ask")) dNil)) (dVar 2)))) (sRet (dC (.bl false))) sNil)
    (sRet (dNotV (dFn fAny (dCons (dLc (iAny (dVar 2)) (gN 3) (dTest (dBin oEq (dBin oGet (dVar 3) (dC (.int 0))) (dC (.str "write")))) (dBin oIn (dTup (dCons (dC (.str "read")) (dCons (dBin oGet (dVar 3) (dC (.int 1))) dNil))) (dVar 2)) [3]) dNil))))))
/-! _law_apart: 0=_law_rules_here 1=_law_deeds 2=_law_found 3=_law_deed_here 4=_law_one -/
def b_f__law_apart (c c2 : CF → Fn) : SDen :=
    (sSeq (sAsg (dLst dNil) (gN 2))
    (sSeq (sFor (iAny (dVar 1)) (gN 3) (sIf (dTest (dBin oEq (dLc (iAny (dVar 2)) (gN 4) (bNot (dTest (dCall 3 (c .f_may_go) (dCons (dVar 0) (dCons (dVar 4) (dCons (dVar 3) dNil)))))) (dVar 4) [4]) (dLst dNil))) (sExpr (dAppend (dVar 2) (dVar 3))) sNil))
    (sRet (dVar 2))))
/-! _law_small: 0=_law_script 1=_law_at 2=_law_shelves 3=_law_says 4=_law_asks 5=_law_some 6=_law_one 7=_law_other 8=_law_deed_here 9=_law_way 10=_law_shelf -/
def b_f__law_small (c c2 : CF → Fn) : SDen :=
    (sSeq (sAsg (dBin oAdd (dLc (iAny (dVar 2)) (gN 10) bYes (dTup (dCons (dC (.str "read")) (dCons (dVar 10) dNil))) [10]) (dLst (dCons (dTup (dCons (dC (.str "number")) (dCons (dCall 3 (c .f__law_drawn) (dCons (dVar 0) (dCons (dVar 1) (dCons (dC (.int 5)) dNil)))) dNil))) dNil))) (gN 5))
    (sSeq (sAsg (dBin oAdd (dVar 5) (dBin oMul (dLst (dCons (dTup (dCons (dC (.str "ask")) dNil)) dNil)) (dFn fInt (dCons (dVar 4) dNil)))) (gN 5))
    (sSeq (sAsg (dBin oGet (dVar 5) (dCall 3 (c .f__law_drawn) (dCons (dVar 0) (dCons (dBin oAdd (dVar 1) (dC (.int 1))) (dCons (dFn fLen (dCons (dVar 5) dNil)) dNil))))) (gN 6))
    (sSeq (sAsg (dBin oGet (dVar 5) (dCall 3 (c .f__law_drawn) (dCons (dVar 0) (dCons (dBin oAdd (dVar 1) (dC (.int 2))) (dCons (dFn fLen (dCons (dVar 5) dNil)) dNil))))) (gN 7))
    (sSeq (sAsg (dTup (dCons (dC (.str "add")) (dCons (dVar 6) (dCons (dVar 7) dNil)))) (gN 8))
    (sSeq (sIf (dTest (dBin oNe (dVar 2) (dC (.str "")))) (sAsg (dTup (dCons (dC (.str "write")) (dCons (dBin oGet (dVar 2) (dCall 3 (c .f__law_drawn) (dCons (dVar 0) (dCons (dBin oAdd (dVar 1) (dC (.int 3))) (dCons (dFn fLen (dCons (dVar 2) dNil)) dNil))))) (dCons (dVar 8) dNil)))) (gN 8)) sNil)
    (sSeq (sIf (dTest (dVar 3)) (sAsg (dTup (dCons (dC (.str "then")) (dCons (dVar 8) (dCons (dTup (dCons (dC (.str "say")) (dCons (dVar 7) dNil))) dNil)))) (gN 8)) sNil)
    (sSeq (sAsg (dCall 3 (c .f__law_drawn) (dCons (dVar 0) (dCons (dBin oAdd (dVar 1) (dC (.int 4))) (dCons (dC (.int 4)) dNil)))) (gN 9))
    (sRet (dBin oGet (dLst (dCons (dVar 8) (dCons (dTup (dCons (dC (.str "then")) (dCons (dVar 8) (dCons (dVar 8) dNil)))) (dCons (dTup (dCons (dC (.str "if")) (dCons (dVar 6) (dCons (dVar 8) (dCons (dVar 7) dNil))))) (dCons (dTup (dCons (dC (.str "loop")) (dCons (dTup (dCons (dC (.str "number")) (dCons (dC (.int 2)) dNil))) (dCons (dVar 8) dNil)))) dNil))))) (dVar 9)))))))))))
/-! _law_side: 0=_law_script 1=_law_at 2=_law_found 3=_law_k 4=_law_shelves 5=_law_is_first -/
def b_f__law_side (c c2 : CF → Fn) : SDen :=
    (sSeq (sAsg (dLst dNil) (gN 2))
    (sSeq (sFor (iRange1 (dBin oAdd (dC (.int 2)) (dCall 3 (c .f__law_drawn) (dCons (dVar 0) (dCons (dVar 1) (dCons (dC (.int 2)) dNil)))))) (gN 3) (sSeq (sAsg (dBin oGet (dLst (dCons (dC (.str "ab")) (dCons (dC (.str "c")) (dCons (dC (.str "d")) dNil)))) (dVar 3)) (gN 4))
    (sSeq (sAsg (dBin oEq (dVar 3) (dCall 3 (c .f__law_drawn) (dCons (dVar 0) (dCons (dBin oAdd (dVar 1) (dC (.int 1))) (dCons (dC (.int 3)) dNil))))) (gN 5))
    (sExpr (dAppend (dVar 2) (dCall 5 (c .f__law_small) (dCons (dVar 0) (dCons (dBin oAdd (dBin oAdd (dVar 1) (dC (.int 10))) (dBin oMul (dC (.int 9)) (dVar 3))) (dCons (dVar 4) (dCons (dVar 5) (dCons (dBin oEq (dVar 3) (dCall 3 (c .f__law_drawn) (dCons (dVar 0) (dCons (dBin oAdd (dVar 1) (dC (.int 2))) (dCons (dC (.int 3)) dNil))))) dNil)))))))))))
    (sRet (dVar 2))))
/-! layers: 0=rules 1=deeds 2=places 3=at 4=one 5=ahead 6=found 7=place 8=to 9=other -/
def b_f_layers (c c2 : CF → Fn) : SDen :=
    sNever
/-! is_order: 0=rules 1=deeds 2=order 3=one 4=other -/
def b_f_is_order (c c2 : CF → Fn) : SDen :=
    sNever
/-! _law_order: 0=_law_script 1=_law_at 2=_law_size 3=_law_left 4=_law_found 5=_law_k 6=_law_number -/
def b_f__law_order (c c2 : CF → Fn) : SDen :=
    sNever
/-! _law_kept: 0=_law_script 1=_law_at 2=_law_size 3=_law_couples 4=_law_found 5=_law_k 6=_law_some 7=_law_number 8=_law_ahead 9=_law_both -/
def b_f__law_kept (c c2 : CF → Fn) : SDen :=
    (sSeq (sAsg (dLst dNil) (gN 4))
    (sSeq (sFor (iRange1 (dVar 2)) (gN 5) (sSeq (sAsg (dLst dNil) (gN 6))
    (sSeq (sFor (iRange1 (dVar 2)) (gN 7) (sSeq (sAsg (dLc (iAny (dVar 3)) (gN 9) (bAnd (dTest (dBin oEq (dBin oGet (dVar 9) (dC (.int 1))) (dVar 7))) (dTest (dBin oNotIn (dBin oGet (dVar 9) (dC (.int 0))) (dVar 4)))) (dVar 9) [9]) (gN 8))
    (sIf (bAnd (dTest (dBin oNotIn (dVar 7) (dVar 4))) (dTest (dBin oEq (dVar 8) (dLst dNil)))) (sExpr (dAppend (dVar 6) (dVar 7))) sNil)))
    (sExpr (dAppend (dVar 4) (dBin oGet (dVar 6) (dCall 3 (c .f__law_drawn) (dCons (dVar 0) (dCons (dBin oAdd (dVar 1) (dVar 5)) (dCons (dFn fLen (dCons (dVar 6) dNil)) dNil))))))))))
    (sRet (dVar 4))))
/-! tidied: 0=rules 1=deed 2=worths 3=made 4=part -/
def b_f_tidied (c c2 : CF → Fn) : SDen :=
    (sSeq (sIf (dTest (dBin oEq (dBin oGet (dVar 1) (dC (.int 0))) (dC (.str "call")))) (sSeq (sAsg (dFn fTuple (dCons (dLc (iAny (dBin oGet (dVar 1) (dC (.int 2)))) (gN 4) bYes (dCall 2 (c .f_tidied) (dCons (dVar 0) (dCons (dVar 4) dNil))) [4]) dNil)) (gN 2))
    (sRet (dTup (dCons (dC (.str "call")) (dCons (dBin oGet (dVar 1) (dC (.int 1))) (dCons (dVar 2) (dCons (dFn fTuple (dCons (dLc (iAny (dBin oGet (dVar 1) (dC (.int 3)))) (gN 4) bYes (dCall 2 (c .f_tidied) (dCons (dVar 0) (dCons (dVar 4) dNil))) [4]) dNil)) dNil))))))) sNil)
    (sSeq (sAsg (dBin oAdd (dTup (dCons (dBin oGet (dVar 1) (dC (.int 0))) dNil)) (dFn fTuple (dCons (dLc (iAny (dSl (dVar 1) (dPart (dC (.int 1))) dNoPart)) (gN 4) bYes (dIf (dTest (dIsi "tuple" (dVar 4))) (dCall 2 (c .f_tidied) (dCons (dVar 0) (dCons (dVar 4) dNil))) (dVar 4)) [4]) dNil))) (gN 3))
    (sRet (dCall 2 (c .f_lessened) (dCons (dVar 0) (dCons (dVar 3) dNil))))))
/-! is_idle: 0=rules 1=deed -/
def b_f_is_idle (c c2 : CF → Fn) : SDen :=
    (sRet (dCall 1 (c .f_is_quiet_by) (dCons (dCall 2 (c .f_marks_of) (dCons (dVar 0) (dCons (dVar 1) dNil))) dNil)))
/-! lessened: 0=rules 1=deed 2=word -/
def b_f_lessened (c c2 : CF → Fn) : SDen :=
    (sSeq (sAsg (dBin oGet (dVar 1) (dC (.int 0))) (gN 2))
    (sSeq (sIf (bAnd (dTest (dBin oEq (dVar 2) (dC (.str "then")))) (dTest (dCall 2 (c .f_is_idle) (dCons (dVar 0) (dCons (dBin oGet (dVar 1) (dC (.int 1))) dNil))))) (sRet (dBin oGet (dVar 1) (dC (.int 2)))) sNil)
    (sSeq (sIf (bAnd (dTest (dBin oEq (dVar 2) (dC (.str "loop")))) (dTest (dCall 2 (c .f_is_idle) (dCons (dVar 0) (dCons (dBin oGet (dVar 1) (dC (.int 2))) dNil))))) (sRet (dCall 2 (c .f_lessened) (dCons (dVar 0) (dCons (dTup (dCons (dC (.str "then")) (dCons (dBin oGet (dVar 1) (dC (.int 1))) (dCons (dTup (dCons (dC (.str "number")) (dCons (dC (.int 0)) dNil))) dNil)))) dNil)))) sNil)
    (sSeq (sIf (bAnd (dTest (dBin oEq (dVar 2) (dC (.str "let")))) (dTest (dBin oNotIn (dBin oGet (dVar 1) (dC (.int 1))) (dCall 1 (c .f_words_in) (dCons (dBin oGet (dVar 1) (dC (.int 3))) dNil))))) (sRet (dCall 2 (c .f_lessened) (dCons (dVar 0) (dCons (dTup (dCons (dC (.str "then")) (dCons (dBin oGet (dVar 1) (dC (.int 2))) (dCons (dBin oGet (dVar 1) (dC (.int 3))) dNil)))) dNil)))) sNil)
    (sSeq (sIf (bAnd (dTest (dBin oEq (dVar 2) (dC (.str "own")))) (dTest (dBin oNotIn (dBin oGet (dVar 1) (dC (.int 1))) (dCall 1 (c .f_words_in) (dCons (dBin oGet (dVar 1) (dC (.int 3))) dNil))))) (sRet (dCall 2 (c .f_lessened) (dCons (dVar 0) (dCons (dTup (dCons (dC (.str "then")) (dCons (dBin oGet (dVar 1) (dC (.int 2))) (dCons (dBin oGet (dVar 1) (dC (.int 3))) dNil)))) dNil)))) sNil)
    (sSeq (sIf (bAnd (dTest (dBin oEq (dVar 2) (dC (.str "if")))) (dTest (dBin oEq (dBin oGet (dVar 1) (dC (.int 2))) (dBin oGet (dVar 1) (dC (.int 3)))))) (sRet (dCall 2 (c .f_lessened) (dCons (dVar 0) (dCons (dTup (dCons (dC (.str "then")) (dCons (dBin oGet (dVar 1) (dC (.int 1))) (dCons (dBin oGet (dVar 1) (dC (.int 2))) dNil)))) dNil)))) sNil)
    (sSeq (sIf (bAnd (dTest (dBin oEq (dVar 2) (dC (.str "if")))) (dTest (dBin oEq (dBin oGet (dBin oGet (dVar 1) (dC (.int 1))) (dC (.int 0))) (dC (.str "number"))))) (sRet (dIf (dTest (dBin oNe (dBin oGet (dBin oGet (dVar 1) (dC (.int 1))) (dC (.int 1))) (dC (.int 0)))) (dBin oGet (dVar 1) (dC (.int 2))) (dBin oGet (dVar 1) (dC (.int 3))))) sNil)
    (sRet (dVar 1)))))))))
/-! _law_idle: 0=_law_rules_here 1=_law_deed_here 2=_law_mark -/
def b_f__law_idle (c c2 : CF → Fn) : SDen :=
    (sRet (dBin oEq (dLc (iAny (dCall 2 (c .f__law_marks) (dCons (dVar 0) (dCons (dVar 1) dNil)))) (gN 2) (dTest (dBin oNe (dBin oGet (dVar 2) (dC (.int 0))) (dC (.str "read")))) (dVar 2) [2]) (dLst dNil)))
/-! _wall: 0=k -/
def b_f__wall (c c2 : CF → Fn) : SDen :=
    (whl (dTest (dC (.bl true))) sNil 1000000)
/-! Hall.__init__: 0=self 1=rules 2=store 3=asked -/
def b_m_Hall_init (c c2 : CF → Fn) : SDen :=
    (sSeq (sFldD "rules" (dVar 1) (dVar 0))
    (sSeq (sFldD "world" (dMake "World" 3 (c2 .m_World_init) (dCons (dVar 2) (dCons (dVar 3) dNil))) (dVar 0))
    (sSeq (sFldD "deeds" (dLst dNil) (dVar 0))
    (sFldD "threads" (dLst dNil) (dVar 0)))))
/-! Hall.need: 0=self 1=number -/
def b_m_Hall_need (c c2 : CF → Fn) : SDen :=
    (sIf (bNot (dTest (dChain oLe oLt (dC (.int 0)) (dVar 1) (dFn fLen (dCons (dFld "deeds" (dVar 0)) dNil))))) (sRaise "NoDeed") sNil)
/-! Hall.going: 0=self 1=number 2=thread -/
def b_m_Hall_going (c c2 : CF → Fn) : SDen :=
    (sRet (dLc (iEnumD (dFld "threads" (dVar 0))) (gT 2 (gsCons (gN 1) (gsCons (gN 2) gsNil))) (dTest (dBin oNotN (dFld "mark" (dVar 2)) (dC .non))) (dVar 1) [1, 2]))
/-! Hall.begin: 0=self 1=deed 2=number -/
def b_m_Hall_begin (c c2 : CF → Fn) : SDen :=
    (sSeq (sIf (bNot (dTest (dFn fAll (dCons (dLc (iAny (dMeth "Hall" "going" 1 (c .m_Hall_going) (dVar 0) dNil)) (gN 2) bYes (dCall 3 (c .f_may_go) (dCons (dFld "rules" (dVar 0)) (dCons (dBin oGet (dFld "deeds" (dVar 0)) (dVar 2)) (dCons (dVar 1) dNil)))) [2]) dNil)))) (sRaise "Clash") sNil)
    (sSeq (sExpr (dAppend (dFld "deeds" (dVar 0)) (dVar 1)))
    (sSeq (sExpr (dAppend (dFld "threads" (dVar 0)) (dMake "Thread" 3 (c2 .m_Thread_init) (dCons (dFld "rules" (dVar 0)) (dCons (dVar 1) dNil)))))
    (sRet (dBin oSub (dFn fLen (dCons (dFld "deeds" (dVar 0)) dNil)) (dC (.int 1)))))))
/-! Hall.waits_for: 0=self 1=deed 2=number -/
def b_m_Hall_waits_for (c c2 : CF → Fn) : SDen :=
    (sRet (dLc (iAny (dMeth "Hall" "going" 1 (c .m_Hall_going) (dVar 0) dNil)) (gN 2) (bNot (dTest (dCall 3 (c .f_may_go) (dCons (dFld "rules" (dVar 0)) (dCons (dBin oGet (dFld "deeds" (dVar 0)) (dVar 2)) (dCons (dVar 1) dNil)))))) (dVar 2) [2]))
/-! Hall.turn: 0=self 1=number -/
def b_m_Hall_turn (c c2 : CF → Fn) : SDen :=
    (sSeq (sExpr (dMeth "Hall" "need" 2 (c .m_Hall_need) (dVar 0) (dCons (dVar 1) dNil)))
    (sSeq (sIf (dTest (dBin oIsN (dFld "mark" (dBin oGet (dFld "threads" (dVar 0)) (dVar 1))) (dC .non))) (sRaise "NotDone") sNil)
    (sSeq (sExpr (dMeth "Thread" "go" 2 (c .m_Thread_go) (dBin oGet (dFld "threads" (dVar 0)) (dVar 1)) (dCons (dFld "world" (dVar 0)) dNil)))
    (sRet (dBin oGet (dFld "marks" (dFld "world" (dVar 0))) (dNeg (dC (.int 1))))))))
/-! Hall.worth: 0=self 1=number -/
def b_m_Hall_worth (c c2 : CF → Fn) : SDen :=
    (sSeq (sExpr (dMeth "Hall" "need" 2 (c .m_Hall_need) (dVar 0) (dCons (dVar 1) dNil)))
    (sSeq (sIf (dTest (dBin oNotN (dFld "mark" (dBin oGet (dFld "threads" (dVar 0)) (dVar 1))) (dC .non))) (sRaise "NotDone") sNil)
    (sRet (dFld "end" (dBin oGet (dFld "threads" (dVar 0)) (dVar 1))))))
/-! Hall.finish: 0=self 1=thread -/
def b_m_Hall_finish (c c2 : CF → Fn) : SDen :=
    (sSeq (sFor (iAny (dFld "threads" (dVar 0))) (gN 1) (whl (dTest (dBin oNotN (dFld "mark" (dVar 1)) (dC .non))) (sExpr (dMeth "Thread" "go" 2 (c .m_Thread_go) (dVar 1) (dCons (dFld "world" (dVar 0)) dNil))) 1000000))
    (sRet (dLc (iAny (dFld "threads" (dVar 0))) (gN 1) bYes (dFld "end" (dVar 1)) [1])))
/-! Hall.store: 0=self -/
def b_m_Hall_store (c c2 : CF → Fn) : SDen :=
    (sRet (dMeth "World" "shelves" 1 (c .m_World_shelves) (dFld "world" (dVar 0)) dNil))
/-! Hall.said: 0=self -/
def b_m_Hall_said (c c2 : CF → Fn) : SDen :=
    (sRet (dFn fList (dCons (dFld "spoken" (dFld "world" (dVar 0))) dNil)))
/-! _law_refused: 0=_law_e 1=_law_flags -/
def b_f__law_refused (c c2 : CF → Fn) : SDen :=
    sNever
/-! _law_going: 0=_law_rules_here 1=_law_deeds 2=_law_answers 3=_law_k 4=_law_deed_here -/
def b_f__law_going (c c2 : CF → Fn) : SDen :=
    (sRet (dLc (iEnumD (dVar 1)) (gT 2 (gsCons (gN 3) (gsCons (gN 4) gsNil))) (dTest (dBin oNotN (dBin oGet (dCall 3 (c .f__law_next) (dCons (dVar 0) (dCons (dVar 4) (dCons (dBin oGet (dVar 2) (dVar 3)) dNil)))) (dC (.int 0))) (dC .non))) (dVar 3) [3, 4]))
/-! _law_waits: 0=_law_rules_here 1=_law_deeds 2=_law_answers 3=_law_deed_here 4=_law_mine 5=_law_k -/
def b_f__law_waits (c c2 : CF → Fn) : SDen :=
    (sSeq (sAsg (dCall 2 (c .f__law_marks) (dCons (dVar 0) (dCons (dVar 3) dNil))) (gN 4))
    (sRet (dLc (iAny (dCall 3 (c .f__law_going) (dCons (dVar 0) (dCons (dVar 1) (dCons (dVar 2) dNil))))) (gN 5) (dTest (dBin oNe (dCall 2 (c .f__law_clash) (dCons (dCall 2 (c .f__law_marks) (dCons (dVar 0) (dCons (dBin oGet (dVar 1) (dVar 5)) dNil))) (dCons (dVar 4) dNil))) (dLst dNil))) (dVar 5) [5])))
/-! _law_to_its_end: 0=_law_hall 1=_law_number 2=_law_turn -/
def b_f__law_to_its_end (c c2 : CF → Fn) : SDen :=
    (sSeq (sFor (iRange1 (dC (.int 200))) (gN 2) (sSeq (sIf (dTest (dBin oNotIn (dVar 1) (dMeth "Hall" "going" 1 (c .m_Hall_going) (dVar 0) dNil))) (sRet (dC (.bl true))) sNil)
    (sExpr (dMeth "Hall" "turn" 2 (c .m_Hall_turn) (dVar 0) (dCons (dVar 1) dNil)))))
    (sRet (dC (.bl false))))
/-! _law_is_refused: 0=_law_hall 1=_law_deed_here -/
def b_f__law_is_refused (c c2 : CF → Fn) : SDen :=
    sNever
/-! words_for: 0=deed 1=found 2=part -/
def b_f_words_for (c c2 : CF → Fn) : SDen :=
    (sSeq (sIf (dTest (dBin oEq (dBin oGet (dVar 0) (dC (.int 0))) (dC (.str "call")))) (sSeq (sAsg (dLst (dCons (dC (.str "(")) (dCons (dC (.str "call")) (dCons (dFn fStrI (dCons (dBin oGet (dVar 0) (dC (.int 1))) dNil)) (dCons (dC (.str "[")) dNil))))) (gN 1))
    (sSeq (sFor (iAny (dBin oGet (dVar 0) (dC (.int 2)))) (gN 2) (sAsg (dBin oAdd (dVar 1) (dCall 1 (c .f_words_for) (dCons (dVar 2) dNil))) (gN 1)))
    (sSeq (sAsg (dBin oAdd (dVar 1) (dLst (dCons (dC (.str "]")) (dCons (dC (.str "[")) dNil)))) (gN 1))
    (sSeq (sFor (iAny (dBin oGet (dVar 0) (dC (.int 3)))) (gN 2) (sAsg (dBin oAdd (dVar 1) (dCall 1 (c .f_words_for) (dCons (dVar 2) dNil))) (gN 1)))
    (sRet (dBin oAdd (dVar 1) (dLst (dCons (dC (.str "]")) (dCons (dC (.str ")")) dNil))))))))) sNil)
    (sSeq (sAsg (dLst (dCons (dC (.str "(")) (dCons (dBin oGet (dVar 0) (dC (.int 0))) dNil))) (gN 1))
    (sSeq (sFor (iAny (dSl (dVar 0) (dPart (dC (.int 1))) dNoPart)) (gN 2) (sAsg (dBin oAdd (dVar 1) (dIf (dTest (dIsi "tuple" (dVar 2))) (dCall 1 (c .f_words_for) (dCons (dVar 2) dNil)) (dLst (dCons (dFn fStrI (dCons (dVar 2) dNil)) dNil)))) (gN 1)))
    (sRet (dBin oAdd (dVar 1) (dLst (dCons (dC (.str ")")) dNil)))))))
/-! written: 0=deed -/
def b_f_written (c c2 : CF → Fn) : SDen :=
    sNever
/-! Words.__init__: 0=self 1=words -/
def b_m_Words_init (c c2 : CF → Fn) : SDen :=
    sNever
/-! Words.next_word: 0=self -/
def b_m_Words_next_word (c c2 : CF → Fn) : SDen :=
    sNever
/-! Words.thing: 0=self 1=word 2=deep 3=sign -/
def b_m_Words_thing (c c2 : CF → Fn) : SDen :=
    (sSeq (sIf (bAnd (dTest (dBin oEq (dVar 1) (dC (.str "(")))) (dTest (dBin oGt (dVar 2) (dC (.int 0))))) (sRet (dMeth "Words" "row" 3 (c .m_Words_row) (dVar 0) (dCons (dC (.str ")")) (dCons (dBin oSub (dVar 2) (dC (.int 1))) dNil)))) sNil)
    (sSeq (sIf (bAnd (dTest (dBin oEq (dVar 1) (dC (.str "[")))) (dTest (dBin oGt (dVar 2) (dC (.int 0))))) (sRet (dMeth "Words" "row" 3 (c .m_Words_row) (dVar 0) (dCons (dC (.str "]")) (dCons (dBin oSub (dVar 2) (dC (.int 1))) dNil)))) sNil)
    (sSeq (sIf (bAnd (dTest (dBin oNe (dVar 1) (dC (.str "")))) (bAnd (dTest (dBin oLe (dFn fLen (dCons (dVar 1) dNil)) (dC (.int 4)))) (dTest (dFn fAll (dCons (dLc (iAny (dVar 1)) (gN 3) bYes (dBin oIn (dVar 3) (dC (.str "0123456789"))) [3]) dNil))))) (sRet (dFn fInt (dCons (dVar 1) dNil))) sNil)
    (sRet (dVar 1)))))
/-! Words.row: 0=self 1=end 2=deep 3=found 4=word -/
def b_m_Words_row (c c2 : CF → Fn) : SDen :=
    (sSeq (sAsg (dTup dNil) (gN 3))
    (sSeq (sAsg (dMeth "Words" "next_word" 1 (c .m_Words_next_word) (dVar 0) dNil) (gN 4))
    (sSeq (whl (dTest (dBin oNe (dVar 4) (dVar 1))) (sSeq (sAsg (dBin oAdd (dVar 3) (dTup (dCons (dMeth "Words" "thing" 3 (c .m_Words_thing) (dVar 0) (dCons (dVar 4) (dCons (dVar 2) dNil))) dNil))) (gN 3))
    (sAsg (dMeth "Words" "next_word" 1 (c .m_Words_next_word) (dVar 0) dNil) (gN 4))) 1000000)
    (sRet (dVar 3)))))
/-! read: 0=rules 1=text 2=words 3=deed -/
def b_f_read (c c2 : CF → Fn) : SDen :=
    sNever
/-! _law_read: 0=_law_rules_here 1=_law_text 2=_law_stack 3=_law_word 4=_law_odd 5=_law_part 6=_law_sign -/
def b_f__law_read (c c2 : CF → Fn) : SDen :=
    sNever
/-! _law_seen: 0=_law_rules_here 1=_law_deeds 2=_law_store_here 3=_law_asked_here 4=_law_rows 5=_law_deed_here 6=_law_own 7=_law_number -/
def b_f__law_seen (c c2 : CF → Fn) : SDen :=
    (sSeq (sAsg (dLst (dCons (dCall 2 (c .f_clashing) (dCons (dVar 0) (dCons (dVar 1) dNil))) (dCons (dCall 2 (c .f_layers) (dCons (dVar 0) (dCons (dVar 1) dNil))) (dCons (dCall 1 (c .f_least_kinds) (dCons (dVar 0) dNil)) (dCons (dBin oGet (dCall 4 (c .f_run_all) (dCons (dVar 0) (dCons (dVar 1) (dCons (dVar 2) (dCons (dVar 3) dNil))))) (dC (.int 0))) dNil))))) (gN 4))
    (sSeq (sFor (iAny (dVar 1)) (gN 5) (sSeq (sAsg (dCall 2 (c .f_touches) (dCons (dVar 0) (dCons (dVar 5) dNil))) (gN 6))
    (sSeq (sAsg (dBin oAdd (dVar 4) (dLst (dCons (dVar 6) (dCons (dCall 2 (c .f_reads_of) (dCons (dVar 0) (dCons (dVar 5) dNil))) (dCons (dCall 2 (c .f_writes_of) (dCons (dVar 0) (dCons (dVar 5) dNil))) (dCons (dCall 2 (c .f_untouched) (dCons (dVar 0) (dCons (dVar 5) dNil))) dNil)))))) (gN 4))
    (sSeq (sAsg (dBin oAdd (dVar 4) (dLst (dCons (dCall 4 (c .f_trace) (dCons (dVar 0) (dCons (dVar 5) (dCons (dVar 2) (dCons (dVar 3) dNil))))) (dCons (dBin oGet (dCall 4 (c .f_run) (dCons (dVar 0) (dCons (dVar 5) (dCons (dVar 2) (dCons (dVar 3) dNil))))) (dC (.int 2))) (dCons (dCall 3 (c .f_too_much) (dCons (dVar 0) (dCons (dVar 5) (dCons (dLst dNil) dNil)))) dNil))))) (gN 4))
    (sAsg (dBin oAdd (dVar 4) (dLst (dCons (dCall 3 (c .f_clash) (dCons (dVar 0) (dCons (dBin oGet (dVar 1) (dC (.int 0))) (dCons (dVar 5) dNil)))) (dCons (dCall 2 (c .f_joined) (dCons (dVar 6) (dCons (dVar 6) dNil))) (dCons (dCall 2 (c .f_both_of) (dCons (dVar 6) (dCons (dVar 6) dNil))) dNil))))) (gN 4))))))
    (sRet (dBin oAdd (dVar 4) (dLc (iRange1 (dFn fLen (dCons (dVar 0) dNil))) (gN 7) bYes (dCall 2 (c .f_rule_touches) (dCons (dVar 0) (dCons (dVar 7) dNil))) [7])))))
/-! _law_state: 0=_law_hall -/
def b_f__law_state (c c2 : CF → Fn) : SDen :=
    (sRet (dTup (dCons (dMeth "Hall" "going" 1 (c .m_Hall_going) (dVar 0) dNil) (dCons (dMeth "Hall" "store" 1 (c .m_Hall_store) (dVar 0) dNil) (dCons (dMeth "Hall" "said" 1 (c .m_Hall_said) (dVar 0) dNil) dNil)))))
/-! _law_refuses: 0=_law_which 1=_law_hall 2=_law_number 3=_law_before -/
def b_f__law_refuses (c c2 : CF → Fn) : SDen :=
    sNever
/-! _law_hall_stands: 0=_law_rules_here 1=_law_store_here 2=_law_asked_here 3=_law_deeds 4=_law_hall 5=_law_number 6=_law_worths -/
def b_f__law_hall_stands (c c2 : CF → Fn) : SDen :=
    (sSeq (sAsg (dMake "Hall" 4 (c2 .m_Hall_init) (dCons (dVar 0) (dCons (dVar 1) (dCons (dVar 2) dNil)))) (gN 4))
    (sSeq (sIf (bOr (dTest (dBin oNe (dMeth "Hall" "begin" 2 (c .m_Hall_begin) (dVar 4) (dCons (dBin oGet (dVar 3) (dC (.int 0))) dNil)) (dC (.int 0)))) (dTest (dBin oNe (dCall 1 (c .f__law_state) (dCons (dVar 4) dNil)) (dCall 1 (c .f__law_state) (dCons (dVar 4) dNil))))) (sRet (dC (.bl false))) sNil)
    (sSeq (sExpr (dAppend (dMeth "Hall" "going" 1 (c .m_Hall_going) (dVar 4) dNil) (dC (.str "x"))))
    (sSeq (sExpr (dAppend (dMeth "Hall" "said" 1 (c .m_Hall_said) (dVar 4) dNil) (dC (.str "x"))))
    (sSeq (sExpr (dAppend (dMeth "Hall" "waits_for" 2 (c .m_Hall_waits_for) (dVar 4) (dCons (dBin oGet (dVar 3) (dC (.int 0))) dNil)) (dC (.str "x"))))
    (sSeq (sIf (bOr (dTest (dBin oNe (dMeth "Hall" "waits_for" 2 (c .m_Hall_waits_for) (dVar 4) (dCons (dBin oGet (dVar 3) (dC (.int 0))) dNil)) (dMeth "Hall" "waits_for" 2 (c .m_Hall_waits_for) (dVar 4) (dCons (dBin oGet (dVar 3) (dC (.int 0))) dNil)))) (dTest (dBin oIn (dC (.str "x")) (dBin oAdd (dMeth "Hall" "going" 1 (c .m_Hall_going) (dVar 4) dNil) (dMeth "Hall" "said" 1 (c .m_Hall_said) (dVar 4) dNil))))) (sRet (dC (.bl false))) sNil)
    (sSeq (sFor (iAny (dTup (dCons (dNeg (dC (.int 1))) (dCons (dC (.int 1)) (dCons (dC (.int 9)) dNil))))) (gN 5) (sIf (bOr (bNot (dTest (dCall 3 (c .f__law_refuses) (dCons (dC (.int 0)) (dCons (dVar 4) (dCons (dVar 5) dNil)))))) (bNot (dTest (dCall 3 (c .f__law_refuses) (dCons (dC (.int 1)) (dCons (dVar 4) (dCons (dVar 5) dNil))))))) (sRet (dC (.bl false))) sNil))
    (sSeq (sIf (bNot (dTest (dCall 3 (c .f__law_refuses) (dCons (dFn fInt (dCons (dBin oIn (dC (.int 0)) (dMeth "Hall" "going" 1 (c .m_Hall_going) (dVar 4) dNil)) dNil)) (dCons (dVar 4) (dCons (dC (.int 0)) dNil)))))) (sRet (dC (.bl false))) sNil)
    (sSeq (sAsg (dMeth "Hall" "finish" 1 (c .m_Hall_finish) (dVar 4) dNil) (gN 6))
    (sSeq (sExpr (dAppend (dVar 6) (dC (.str "x"))))
    (sRet (dAndV (dBin oEq (dMeth "Hall" "finish" 1 (c .m_Hall_finish) (dVar 4) dNil) (dSl (dVar 6) dNoPart (dPart (dC (.int 1))))) (dAndV (dCall 3 (c .f__law_refuses) (dCons (dC (.int 0)) (dCons (dVar 4) (dCons (dC (.int 0)) dNil)))) (dBin oEq (dMeth "Hall" "worth" 2 (c .m_Hall_worth) (dVar 4) (dCons (dC (.int 0)) dNil)) (dBin oGet (dVar 6) (dC (.int 0)))))))))))))))))
def cbody (c c2 : CF → Fn) : CF → Fn
  | .f_is_number => runFn 1 1 (b_f_is_number c c2)
  | .f_is_word => runFn 2 3 (b_f_is_word c c2)
  | .f_is_shelf => runFn 2 2 (b_f_is_shelf c c2)
  | .m_Reader_init => runFn 3 3 (b_m_Reader_init c c2)
  | .m_Reader_is_deed => runFn 3 6 (b_m_Reader_is_deed c c2)
  | .m_Reader_is_call => runFn 3 7 (b_m_Reader_is_call c c2)
  | .f_is_leaf => runFn 2 2 (b_f_is_leaf c c2)
  | .f_are_names => runFn 2 3 (b_f_are_names c c2)
  | .f_is_rule => runFn 2 3 (b_f_is_rule c c2)
  | .f_is_rules => runFn 1 2 (b_f_is_rules c c2)
  | .f_is_deed => runFn 2 2 (b_f_is_deed c c2)
  | .f_parts_of => runFn 1 2 (b_f_parts_of c c2)
  | .f_size_of => runFn 1 2 (b_f_size_of c c2)
  | .f__law_cell => runFn 2 2 (b_f__law_cell c c2)
  | .f__law_drawn => runFn 3 4 (b_f__law_drawn c c2)
  | .f__law_leaf => runFn 3 8 (b_f__law_leaf c c2)
  | .f__law_deed => runFn 5 11 (b_f__law_deed c c2)
  | .f__law_call => runFn 5 9 (b_f__law_call c c2)
  | .f__law_rules => runFn 2 7 (b_f__law_rules c c2)
  | .f__law_store => runFn 2 3 (b_f__law_store c c2)
  | .f__law_asked => runFn 2 3 (b_f__law_asked c c2)
  | .f__law_odd => runFn 1 2 (b_f__law_odd c c2)
  | .f__law_spoilt => runFn 3 5 (b_f__law_spoilt c c2)
  | .f__law_is_word => runFn 2 3 (b_f__law_is_word c c2)
  | .f__law_left => runFn 5 8 (b_f__law_left c c2)
  | .f__law_left_of_all => runFn 5 6 (b_f__law_left_of_all c c2)
  | .f__law_left_of_call => runFn 5 6 (b_f__law_left_of_call c c2)
  | .f__law_size => runFn 1 3 (b_f__law_size c c2)
  | .f__law_weight => runFn 3 9 (b_f__law_weight c c2)
  | .f__law_light => runFn 4 5 (b_f__law_light c c2)
  | .f__law_each => runFn 1 4 (b_f__law_each c c2)
  | .m_Run_init => runFn 4 4 (b_m_Run_init c c2)
  | .m_Run_touch => runFn 2 2 (b_m_Run_touch c c2)
  | .m_Run_worth => runFn 3 6 (b_m_Run_worth c c2)
  | .m_Run_at_shelf => runFn 3 5 (b_m_Run_at_shelf c c2)
  | .m_Run_with_names => runFn 3 10 (b_m_Run_with_names c c2)
  | .m_Run_put_together => runFn 3 7 (b_m_Run_put_together c c2)
  | .m_World_init => runFn 3 3 (b_m_World_init c c2)
  | .m_World_touched => runFn 2 3 (b_m_World_touched c c2)
  | .m_World_shelves => runFn 1 2 (b_m_World_shelves c c2)
  | .f_finished => runFn 3 3 (b_f_finished c c2)
  | .f_run => runFn 4 6 (b_f_run c c2)
  | .f_trace => runFn 4 5 (b_f_trace c c2)
  | .f__law_touch => runFn 2 2 (b_f__law_touch c c2)
  | .f__law_worth => runFn 4 7 (b_f__law_worth c c2)
  | .f__law_called => runFn 4 8 (b_f__law_called c c2)
  | .f__law_behind => runFn 5 10 (b_f__law_behind c c2)
  | .f__law_next => runFn 3 5 (b_f__law_next c c2)
  | .f__law_world => runFn 2 2 (b_f__law_world c c2)
  | .f__law_do => runFn 2 3 (b_f__law_do c c2)
  | .f__law_turn => runFn 4 5 (b_f__law_turn c c2)
  | .f__law_by => runFn 4 11 (b_f__law_by c c2)
  | .m_Thread_init => runFn 3 3 (b_m_Thread_init c c2)
  | .m_Thread_look => runFn 1 2 (b_m_Thread_look c c2)
  | .m_Thread_go => runFn 2 2 (b_m_Thread_go c c2)
  | .f_run_all => runFn 4 7 (b_f_run_all c c2)
  | .f_run_by => runFn 5 10 (b_f_run_by c c2)
  | .f__law_quiet => runFn 2 6 (b_f__law_quiet c c2)
  | .f_marks_of => runFn 2 7 (b_f_marks_of c c2)
  | .f_once => runFn 1 1 (b_f_once c c2)
  | .f_call_marks => runFn 2 8 (b_f_call_marks c c2)
  | .f_touches => runFn 2 2 (b_f_touches c c2)
  | .f_rule_touches => runFn 2 2 (b_f_rule_touches c c2)
  | .f_shelves_of => runFn 2 3 (b_f_shelves_of c c2)
  | .f_reads_of => runFn 2 2 (b_f_reads_of c c2)
  | .f_writes_of => runFn 2 2 (b_f_writes_of c c2)
  | .f_is_quiet_by => runFn 1 2 (b_f_is_quiet_by c c2)
  | .f_is_quiet => runFn 2 2 (b_f_is_quiet c c2)
  | .f_untouched => runFn 2 5 (b_f_untouched c c2)
  | .f__law_marks => runFn 2 7 (b_f__law_marks c c2)
  | .f_is_met => runFn 2 2 (b_f_is_met c c2)
  | .f_clash => runFn 3 6 (b_f_clash c c2)
  | .f_may_go => runFn 3 3 (b_f_may_go c c2)
  | .f_run_in => runFn 5 11 (b_f_run_in c c2)
  | .f_order_matters => runFn 5 5 (b_f_order_matters c c2)
  | .f_is_mark => runFn 2 2 (b_f_is_mark c c2)
  | .f_is_kind => runFn 2 5 (b_f_is_kind c c2)
  | .f_is_less => runFn 2 3 (b_f_is_less c c2)
  | .f_joined => runFn 2 2 (b_f_joined c c2)
  | .f_both_of => runFn 2 3 (b_f_both_of c c2)
  | .f__law_is_mark => runFn 2 2 (b_f__law_is_mark c c2)
  | .f__law_is_kind => runFn 2 3 (b_f__law_is_kind c c2)
  | .f__law_kind => runFn 3 8 (b_f__law_kind c c2)
  | .f_fits => runFn 3 3 (b_f_fits c c2)
  | .f_too_much => runFn 3 4 (b_f_too_much c c2)
  | .f_least_kinds => runFn 1 2 (b_f_least_kinds c c2)
  | .f_need_kinds => runFn 2 4 (b_f_need_kinds c c2)
  | .f_first_fault => runFn 2 6 (b_f_first_fault c c2)
  | .f_told_touches => runFn 3 3 (b_f_told_touches c c2)
  | .f_told_marks => runFn 3 8 (b_f_told_marks c c2)
  | .f__law_told_marks => runFn 3 8 (b_f__law_told_marks c c2)
  | .f__law_asked_so => runFn 4 6 (b_f__law_asked_so c c2)
  | .f__law_clash => runFn 2 7 (b_f__law_clash c c2)
  | .f_words_in => runFn 1 3 (b_f_words_in c c2)
  | .f_with_words => runFn 2 6 (b_f_with_words c c2)
  | .f_changed => runFn 2 2 (b_f_changed c c2)
  | .f_with_handed => runFn 2 4 (b_f_with_handed c c2)
  | .m_Names_init => runFn 2 2 (b_m_Names_init c c2)
  | .m_Names_fresh => runFn 2 2 (b_m_Names_fresh c c2)
  | .m_Names_renewed => runFn 2 6 (b_m_Names_renewed c c2)
  | .f_put_in => runFn 2 6 (b_f_put_in c c2)
  | .f_without_calls => runFn 3 12 (b_f_without_calls c c2)
  | .f_all_may_go => runFn 2 5 (b_f_all_may_go c c2)
  | .f_clashing => runFn 2 6 (b_f_clashing c c2)
  | .f_goes_twice => runFn 2 4 (b_f_goes_twice c c2)
  | .f__law_apart => runFn 2 5 (b_f__law_apart c c2)
  | .f__law_small => runFn 5 11 (b_f__law_small c c2)
  | .f__law_side => runFn 2 6 (b_f__law_side c c2)
  | .f_layers => runFn 2 10 (b_f_layers c c2)
  | .f_is_order => runFn 3 5 (b_f_is_order c c2)
  | .f__law_order => runFn 3 7 (b_f__law_order c c2)
  | .f__law_kept => runFn 4 10 (b_f__law_kept c c2)
  | .f_tidied => runFn 2 5 (b_f_tidied c c2)
  | .f_is_idle => runFn 2 2 (b_f_is_idle c c2)
  | .f_lessened => runFn 2 3 (b_f_lessened c c2)
  | .f__law_idle => runFn 2 3 (b_f__law_idle c c2)
  | .f__wall => runFn 1 1 (b_f__wall c c2)
  | .m_Hall_init => runFn 4 4 (b_m_Hall_init c c2)
  | .m_Hall_need => runFn 2 2 (b_m_Hall_need c c2)
  | .m_Hall_going => runFn 1 3 (b_m_Hall_going c c2)
  | .m_Hall_begin => runFn 2 3 (b_m_Hall_begin c c2)
  | .m_Hall_waits_for => runFn 2 3 (b_m_Hall_waits_for c c2)
  | .m_Hall_turn => runFn 2 2 (b_m_Hall_turn c c2)
  | .m_Hall_worth => runFn 2 2 (b_m_Hall_worth c c2)
  | .m_Hall_finish => runFn 1 2 (b_m_Hall_finish c c2)
  | .m_Hall_store => runFn 1 1 (b_m_Hall_store c c2)
  | .m_Hall_said => runFn 1 1 (b_m_Hall_said c c2)
  | .f__law_refused => runFn 1 2 (b_f__law_refused c c2)
  | .f__law_going => runFn 3 5 (b_f__law_going c c2)
  | .f__law_waits => runFn 4 6 (b_f__law_waits c c2)
  | .f__law_to_its_end => runFn 2 3 (b_f__law_to_its_end c c2)
  | .f__law_is_refused => runFn 2 2 (b_f__law_is_refused c c2)
  | .f_words_for => runFn 1 3 (b_f_words_for c c2)
  | .f_written => runFn 1 1 (b_f_written c c2)
  | .m_Words_init => runFn 2 2 (b_m_Words_init c c2)
  | .m_Words_next_word => runFn 1 1 (b_m_Words_next_word c c2)
  | .m_Words_thing => runFn 3 4 (b_m_Words_thing c c2)
  | .m_Words_row => runFn 3 5 (b_m_Words_row c c2)
  | .f_read => runFn 2 4 (b_f_read c c2)
  | .f__law_read => runFn 2 7 (b_f__law_read c c2)
  | .f__law_seen => runFn 4 8 (b_f__law_seen c c2)
  | .f__law_state => runFn 1 1 (b_f__law_state c c2)
  | .f__law_refuses => runFn 3 4 (b_f__law_refuses c c2)
  | .f__law_hall_stands => runFn 4 7 (b_f__law_hall_stands c c2)
def csem : Nat → CF → Fn
  | 0 => fun _ _ _ => .bad
  | 1 => fun _ _ _ => .bad
  | n + 2 => cbody (csem (n + 1)) (csem n)
theorem cs_f_is_number (n : Nat) : csem (n + 2) .f_is_number = runFn 1 1 (b_f_is_number (csem (n + 1)) (csem n)) := rfl
theorem cs_f_is_word (n : Nat) : csem (n + 2) .f_is_word = runFn 2 3 (b_f_is_word (csem (n + 1)) (csem n)) := rfl
theorem cs_f_is_shelf (n : Nat) : csem (n + 2) .f_is_shelf = runFn 2 2 (b_f_is_shelf (csem (n + 1)) (csem n)) := rfl
theorem cs_m_Reader_init (n : Nat) : csem (n + 2) .m_Reader_init = runFn 3 3 (b_m_Reader_init (csem (n + 1)) (csem n)) := rfl
theorem cs_m_Reader_is_deed (n : Nat) : csem (n + 2) .m_Reader_is_deed = runFn 3 6 (b_m_Reader_is_deed (csem (n + 1)) (csem n)) := rfl
theorem cs_m_Reader_is_call (n : Nat) : csem (n + 2) .m_Reader_is_call = runFn 3 7 (b_m_Reader_is_call (csem (n + 1)) (csem n)) := rfl
theorem cs_f_is_leaf (n : Nat) : csem (n + 2) .f_is_leaf = runFn 2 2 (b_f_is_leaf (csem (n + 1)) (csem n)) := rfl
theorem cs_f_are_names (n : Nat) : csem (n + 2) .f_are_names = runFn 2 3 (b_f_are_names (csem (n + 1)) (csem n)) := rfl
theorem cs_f_is_rule (n : Nat) : csem (n + 2) .f_is_rule = runFn 2 3 (b_f_is_rule (csem (n + 1)) (csem n)) := rfl
theorem cs_f_is_rules (n : Nat) : csem (n + 2) .f_is_rules = runFn 1 2 (b_f_is_rules (csem (n + 1)) (csem n)) := rfl
theorem cs_f_is_deed (n : Nat) : csem (n + 2) .f_is_deed = runFn 2 2 (b_f_is_deed (csem (n + 1)) (csem n)) := rfl
theorem cs_f_parts_of (n : Nat) : csem (n + 2) .f_parts_of = runFn 1 2 (b_f_parts_of (csem (n + 1)) (csem n)) := rfl
theorem cs_f_size_of (n : Nat) : csem (n + 2) .f_size_of = runFn 1 2 (b_f_size_of (csem (n + 1)) (csem n)) := rfl
theorem cs_f__law_cell (n : Nat) : csem (n + 2) .f__law_cell = runFn 2 2 (b_f__law_cell (csem (n + 1)) (csem n)) := rfl
theorem cs_f__law_drawn (n : Nat) : csem (n + 2) .f__law_drawn = runFn 3 4 (b_f__law_drawn (csem (n + 1)) (csem n)) := rfl
theorem cs_f__law_leaf (n : Nat) : csem (n + 2) .f__law_leaf = runFn 3 8 (b_f__law_leaf (csem (n + 1)) (csem n)) := rfl
theorem cs_f__law_deed (n : Nat) : csem (n + 2) .f__law_deed = runFn 5 11 (b_f__law_deed (csem (n + 1)) (csem n)) := rfl
theorem cs_f__law_call (n : Nat) : csem (n + 2) .f__law_call = runFn 5 9 (b_f__law_call (csem (n + 1)) (csem n)) := rfl
theorem cs_f__law_rules (n : Nat) : csem (n + 2) .f__law_rules = runFn 2 7 (b_f__law_rules (csem (n + 1)) (csem n)) := rfl
theorem cs_f__law_store (n : Nat) : csem (n + 2) .f__law_store = runFn 2 3 (b_f__law_store (csem (n + 1)) (csem n)) := rfl
theorem cs_f__law_asked (n : Nat) : csem (n + 2) .f__law_asked = runFn 2 3 (b_f__law_asked (csem (n + 1)) (csem n)) := rfl
theorem cs_f__law_odd (n : Nat) : csem (n + 2) .f__law_odd = runFn 1 2 (b_f__law_odd (csem (n + 1)) (csem n)) := rfl
theorem cs_f__law_spoilt (n : Nat) : csem (n + 2) .f__law_spoilt = runFn 3 5 (b_f__law_spoilt (csem (n + 1)) (csem n)) := rfl
theorem cs_f__law_is_word (n : Nat) : csem (n + 2) .f__law_is_word = runFn 2 3 (b_f__law_is_word (csem (n + 1)) (csem n)) := rfl
theorem cs_f__law_left (n : Nat) : csem (n + 2) .f__law_left = runFn 5 8 (b_f__law_left (csem (n + 1)) (csem n)) := rfl
theorem cs_f__law_left_of_all (n : Nat) : csem (n + 2) .f__law_left_of_all = runFn 5 6 (b_f__law_left_of_all (csem (n + 1)) (csem n)) := rfl
theorem cs_f__law_left_of_call (n : Nat) : csem (n + 2) .f__law_left_of_call = runFn 5 6 (b_f__law_left_of_call (csem (n + 1)) (csem n)) := rfl
theorem cs_f__law_size (n : Nat) : csem (n + 2) .f__law_size = runFn 1 3 (b_f__law_size (csem (n + 1)) (csem n)) := rfl
theorem cs_f__law_weight (n : Nat) : csem (n + 2) .f__law_weight = runFn 3 9 (b_f__law_weight (csem (n + 1)) (csem n)) := rfl
theorem cs_f__law_light (n : Nat) : csem (n + 2) .f__law_light = runFn 4 5 (b_f__law_light (csem (n + 1)) (csem n)) := rfl
theorem cs_f__law_each (n : Nat) : csem (n + 2) .f__law_each = runFn 1 4 (b_f__law_each (csem (n + 1)) (csem n)) := rfl
theorem cs_m_Run_init (n : Nat) : csem (n + 2) .m_Run_init = runFn 4 4 (b_m_Run_init (csem (n + 1)) (csem n)) := rfl
theorem cs_m_Run_touch (n : Nat) : csem (n + 2) .m_Run_touch = runFn 2 2 (b_m_Run_touch (csem (n + 1)) (csem n)) := rfl
theorem cs_m_Run_worth (n : Nat) : csem (n + 2) .m_Run_worth = runFn 3 6 (b_m_Run_worth (csem (n + 1)) (csem n)) := rfl
theorem cs_m_Run_at_shelf (n : Nat) : csem (n + 2) .m_Run_at_shelf = runFn 3 5 (b_m_Run_at_shelf (csem (n + 1)) (csem n)) := rfl
theorem cs_m_Run_with_names (n : Nat) : csem (n + 2) .m_Run_with_names = runFn 3 10 (b_m_Run_with_names (csem (n + 1)) (csem n)) := rfl
theorem cs_m_Run_put_together (n : Nat) : csem (n + 2) .m_Run_put_together = runFn 3 7 (b_m_Run_put_together (csem (n + 1)) (csem n)) := rfl
theorem cs_m_World_init (n : Nat) : csem (n + 2) .m_World_init = runFn 3 3 (b_m_World_init (csem (n + 1)) (csem n)) := rfl
theorem cs_m_World_touched (n : Nat) : csem (n + 2) .m_World_touched = runFn 2 3 (b_m_World_touched (csem (n + 1)) (csem n)) := rfl
theorem cs_m_World_shelves (n : Nat) : csem (n + 2) .m_World_shelves = runFn 1 2 (b_m_World_shelves (csem (n + 1)) (csem n)) := rfl
theorem cs_f_finished (n : Nat) : csem (n + 2) .f_finished = runFn 3 3 (b_f_finished (csem (n + 1)) (csem n)) := rfl
theorem cs_f_run (n : Nat) : csem (n + 2) .f_run = runFn 4 6 (b_f_run (csem (n + 1)) (csem n)) := rfl
theorem cs_f_trace (n : Nat) : csem (n + 2) .f_trace = runFn 4 5 (b_f_trace (csem (n + 1)) (csem n)) := rfl
theorem cs_f__law_touch (n : Nat) : csem (n + 2) .f__law_touch = runFn 2 2 (b_f__law_touch (csem (n + 1)) (csem n)) := rfl
theorem cs_f__law_worth (n : Nat) : csem (n + 2) .f__law_worth = runFn 4 7 (b_f__law_worth (csem (n + 1)) (csem n)) := rfl
theorem cs_f__law_called (n : Nat) : csem (n + 2) .f__law_called = runFn 4 8 (b_f__law_called (csem (n + 1)) (csem n)) := rfl
theorem cs_f__law_behind (n : Nat) : csem (n + 2) .f__law_behind = runFn 5 10 (b_f__law_behind (csem (n + 1)) (csem n)) := rfl
theorem cs_f__law_next (n : Nat) : csem (n + 2) .f__law_next = runFn 3 5 (b_f__law_next (csem (n + 1)) (csem n)) := rfl
theorem cs_f__law_world (n : Nat) : csem (n + 2) .f__law_world = runFn 2 2 (b_f__law_world (csem (n + 1)) (csem n)) := rfl
theorem cs_f__law_do (n : Nat) : csem (n + 2) .f__law_do = runFn 2 3 (b_f__law_do (csem (n + 1)) (csem n)) := rfl
theorem cs_f__law_turn (n : Nat) : csem (n + 2) .f__law_turn = runFn 4 5 (b_f__law_turn (csem (n + 1)) (csem n)) := rfl
theorem cs_f__law_by (n : Nat) : csem (n + 2) .f__law_by = runFn 4 11 (b_f__law_by (csem (n + 1)) (csem n)) := rfl
theorem cs_m_Thread_init (n : Nat) : csem (n + 2) .m_Thread_init = runFn 3 3 (b_m_Thread_init (csem (n + 1)) (csem n)) := rfl
theorem cs_m_Thread_look (n : Nat) : csem (n + 2) .m_Thread_look = runFn 1 2 (b_m_Thread_look (csem (n + 1)) (csem n)) := rfl
theorem cs_m_Thread_go (n : Nat) : csem (n + 2) .m_Thread_go = runFn 2 2 (b_m_Thread_go (csem (n + 1)) (csem n)) := rfl
theorem cs_f_run_all (n : Nat) : csem (n + 2) .f_run_all = runFn 4 7 (b_f_run_all (csem (n + 1)) (csem n)) := rfl
theorem cs_f_run_by (n : Nat) : csem (n + 2) .f_run_by = runFn 5 10 (b_f_run_by (csem (n + 1)) (csem n)) := rfl
theorem cs_f__law_quiet (n : Nat) : csem (n + 2) .f__law_quiet = runFn 2 6 (b_f__law_quiet (csem (n + 1)) (csem n)) := rfl
theorem cs_f_marks_of (n : Nat) : csem (n + 2) .f_marks_of = runFn 2 7 (b_f_marks_of (csem (n + 1)) (csem n)) := rfl
theorem cs_f_once (n : Nat) : csem (n + 2) .f_once = runFn 1 1 (b_f_once (csem (n + 1)) (csem n)) := rfl
theorem cs_f_call_marks (n : Nat) : csem (n + 2) .f_call_marks = runFn 2 8 (b_f_call_marks (csem (n + 1)) (csem n)) := rfl
theorem cs_f_touches (n : Nat) : csem (n + 2) .f_touches = runFn 2 2 (b_f_touches (csem (n + 1)) (csem n)) := rfl
theorem cs_f_rule_touches (n : Nat) : csem (n + 2) .f_rule_touches = runFn 2 2 (b_f_rule_touches (csem (n + 1)) (csem n)) := rfl
theorem cs_f_shelves_of (n : Nat) : csem (n + 2) .f_shelves_of = runFn 2 3 (b_f_shelves_of (csem (n + 1)) (csem n)) := rfl
theorem cs_f_reads_of (n : Nat) : csem (n + 2) .f_reads_of = runFn 2 2 (b_f_reads_of (csem (n + 1)) (csem n)) := rfl
theorem cs_f_writes_of (n : Nat) : csem (n + 2) .f_writes_of = runFn 2 2 (b_f_writes_of (csem (n + 1)) (csem n)) := rfl
theorem cs_f_is_quiet_by (n : Nat) : csem (n + 2) .f_is_quiet_by = runFn 1 2 (b_f_is_quiet_by (csem (n + 1)) (csem n)) := rfl
theorem cs_f_is_quiet (n : Nat) : csem (n + 2) .f_is_quiet = runFn 2 2 (b_f_is_quiet (csem (n + 1)) (csem n)) := rfl
theorem cs_f_untouched (n : Nat) : csem (n + 2) .f_untouched = runFn 2 5 (b_f_untouched (csem (n + 1)) (csem n)) := rfl
theorem cs_f__law_marks (n : Nat) : csem (n + 2) .f__law_marks = runFn 2 7 (b_f__law_marks (csem (n + 1)) (csem n)) := rfl
theorem cs_f_is_met (n : Nat) : csem (n + 2) .f_is_met = runFn 2 2 (b_f_is_met (csem (n + 1)) (csem n)) := rfl
theorem cs_f_clash (n : Nat) : csem (n + 2) .f_clash = runFn 3 6 (b_f_clash (csem (n + 1)) (csem n)) := rfl
theorem cs_f_may_go (n : Nat) : csem (n + 2) .f_may_go = runFn 3 3 (b_f_may_go (csem (n + 1)) (csem n)) := rfl
theorem cs_f_run_in (n : Nat) : csem (n + 2) .f_run_in = runFn 5 11 (b_f_run_in (csem (n + 1)) (csem n)) := rfl
theorem cs_f_order_matters (n : Nat) : csem (n + 2) .f_order_matters = runFn 5 5 (b_f_order_matters (csem (n + 1)) (csem n)) := rfl
theorem cs_f_is_mark (n : Nat) : csem (n + 2) .f_is_mark = runFn 2 2 (b_f_is_mark (csem (n + 1)) (csem n)) := rfl
theorem cs_f_is_kind (n : Nat) : csem (n + 2) .f_is_kind = runFn 2 5 (b_f_is_kind (csem (n + 1)) (csem n)) := rfl
theorem cs_f_is_less (n : Nat) : csem (n + 2) .f_is_less = runFn 2 3 (b_f_is_less (csem (n + 1)) (csem n)) := rfl
theorem cs_f_joined (n : Nat) : csem (n + 2) .f_joined = runFn 2 2 (b_f_joined (csem (n + 1)) (csem n)) := rfl
theorem cs_f_both_of (n : Nat) : csem (n + 2) .f_both_of = runFn 2 3 (b_f_both_of (csem (n + 1)) (csem n)) := rfl
theorem cs_f__law_is_mark (n : Nat) : csem (n + 2) .f__law_is_mark = runFn 2 2 (b_f__law_is_mark (csem (n + 1)) (csem n)) := rfl
theorem cs_f__law_is_kind (n : Nat) : csem (n + 2) .f__law_is_kind = runFn 2 3 (b_f__law_is_kind (csem (n + 1)) (csem n)) := rfl
theorem cs_f__law_kind (n : Nat) : csem (n + 2) .f__law_kind = runFn 3 8 (b_f__law_kind (csem (n + 1)) (csem n)) := rfl
theorem cs_f_fits (n : Nat) : csem (n + 2) .f_fits = runFn 3 3 (b_f_fits (csem (n + 1)) (csem n)) := rfl
theorem cs_f_too_much (n : Nat) : csem (n + 2) .f_too_much = runFn 3 4 (b_f_too_much (csem (n + 1)) (csem n)) := rfl
theorem cs_f_least_kinds (n : Nat) : csem (n + 2) .f_least_kinds = runFn 1 2 (b_f_least_kinds (csem (n + 1)) (csem n)) := rfl
theorem cs_f_need_kinds (n : Nat) : csem (n + 2) .f_need_kinds = runFn 2 4 (b_f_need_kinds (csem (n + 1)) (csem n)) := rfl
theorem cs_f_first_fault (n : Nat) : csem (n + 2) .f_first_fault = runFn 2 6 (b_f_first_fault (csem (n + 1)) (csem n)) := rfl
theorem cs_f_told_touches (n : Nat) : csem (n + 2) .f_told_touches = runFn 3 3 (b_f_told_touches (csem (n + 1)) (csem n)) := rfl
theorem cs_f_told_marks (n : Nat) : csem (n + 2) .f_told_marks = runFn 3 8 (b_f_told_marks (csem (n + 1)) (csem n)) := rfl
theorem cs_f__law_told_marks (n : Nat) : csem (n + 2) .f__law_told_marks = runFn 3 8 (b_f__law_told_marks (csem (n + 1)) (csem n)) := rfl
theorem cs_f__law_asked_so (n : Nat) : csem (n + 2) .f__law_asked_so = runFn 4 6 (b_f__law_asked_so (csem (n + 1)) (csem n)) := rfl
theorem cs_f__law_clash (n : Nat) : csem (n + 2) .f__law_clash = runFn 2 7 (b_f__law_clash (csem (n + 1)) (csem n)) := rfl
theorem cs_f_words_in (n : Nat) : csem (n + 2) .f_words_in = runFn 1 3 (b_f_words_in (csem (n + 1)) (csem n)) := rfl
theorem cs_f_with_words (n : Nat) : csem (n + 2) .f_with_words = runFn 2 6 (b_f_with_words (csem (n + 1)) (csem n)) := rfl
theorem cs_f_changed (n : Nat) : csem (n + 2) .f_changed = runFn 2 2 (b_f_changed (csem (n + 1)) (csem n)) := rfl
theorem cs_f_with_handed (n : Nat) : csem (n + 2) .f_with_handed = runFn 2 4 (b_f_with_handed (csem (n + 1)) (csem n)) := rfl
theorem cs_m_Names_init (n : Nat) : csem (n + 2) .m_Names_init = runFn 2 2 (b_m_Names_init (csem (n + 1)) (csem n)) := rfl
theorem cs_m_Names_fresh (n : Nat) : csem (n + 2) .m_Names_fresh = runFn 2 2 (b_m_Names_fresh (csem (n + 1)) (csem n)) := rfl
theorem cs_m_Names_renewed (n : Nat) : csem (n + 2) .m_Names_renewed = runFn 2 6 (b_m_Names_renewed (csem (n + 1)) (csem n)) := rfl
theorem cs_f_put_in (n : Nat) : csem (n + 2) .f_put_in = runFn 2 6 (b_f_put_in (csem (n + 1)) (csem n)) := rfl
theorem cs_f_without_calls (n : Nat) : csem (n + 2) .f_without_calls = runFn 3 12 (b_f_without_calls (csem (n + 1)) (csem n)) := rfl
theorem cs_f_all_may_go (n : Nat) : csem (n + 2) .f_all_may_go = runFn 2 5 (b_f_all_may_go (csem (n + 1)) (csem n)) := rfl
theorem cs_f_clashing (n : Nat) : csem (n + 2) .f_clashing = runFn 2 6 (b_f_clashing (csem (n + 1)) (csem n)) := rfl
theorem cs_f_goes_twice (n : Nat) : csem (n + 2) .f_goes_twice = runFn 2 4 (b_f_goes_twice (csem (n + 1)) (csem n)) := rfl
theorem cs_f__law_apart (n : Nat) : csem (n + 2) .f__law_apart = runFn 2 5 (b_f__law_apart (csem (n + 1)) (csem n)) := rfl
theorem cs_f__law_small (n : Nat) : csem (n + 2) .f__law_small = runFn 5 11 (b_f__law_small (csem (n + 1)) (csem n)) := rfl
theorem cs_f__law_side (n : Nat) : csem (n + 2) .f__law_side = runFn 2 6 (b_f__law_side (csem (n + 1)) (csem n)) := rfl
theorem cs_f_layers (n : Nat) : csem (n + 2) .f_layers = runFn 2 10 (b_f_layers (csem (n + 1)) (csem n)) := rfl
theorem cs_f_is_order (n : Nat) : csem (n + 2) .f_is_order = runFn 3 5 (b_f_is_order (csem (n + 1)) (csem n)) := rfl
theorem cs_f__law_order (n : Nat) : csem (n + 2) .f__law_order = runFn 3 7 (b_f__law_order (csem (n + 1)) (csem n)) := rfl
theorem cs_f__law_kept (n : Nat) : csem (n + 2) .f__law_kept = runFn 4 10 (b_f__law_kept (csem (n + 1)) (csem n)) := rfl
theorem cs_f_tidied (n : Nat) : csem (n + 2) .f_tidied = runFn 2 5 (b_f_tidied (csem (n + 1)) (csem n)) := rfl
theorem cs_f_is_idle (n : Nat) : csem (n + 2) .f_is_idle = runFn 2 2 (b_f_is_idle (csem (n + 1)) (csem n)) := rfl
theorem cs_f_lessened (n : Nat) : csem (n + 2) .f_lessened = runFn 2 3 (b_f_lessened (csem (n + 1)) (csem n)) := rfl
theorem cs_f__law_idle (n : Nat) : csem (n + 2) .f__law_idle = runFn 2 3 (b_f__law_idle (csem (n + 1)) (csem n)) := rfl
theorem cs_f__wall (n : Nat) : csem (n + 2) .f__wall = runFn 1 1 (b_f__wall (csem (n + 1)) (csem n)) := rfl
theorem cs_m_Hall_init (n : Nat) : csem (n + 2) .m_Hall_init = runFn 4 4 (b_m_Hall_init (csem (n + 1)) (csem n)) := rfl
theorem cs_m_Hall_need (n : Nat) : csem (n + 2) .m_Hall_need = runFn 2 2 (b_m_Hall_need (csem (n + 1)) (csem n)) := rfl
theorem cs_m_Hall_going (n : Nat) : csem (n + 2) .m_Hall_going = runFn 1 3 (b_m_Hall_going (csem (n + 1)) (csem n)) := rfl
theorem cs_m_Hall_begin (n : Nat) : csem (n + 2) .m_Hall_begin = runFn 2 3 (b_m_Hall_begin (csem (n + 1)) (csem n)) := rfl
theorem cs_m_Hall_waits_for (n : Nat) : csem (n + 2) .m_Hall_waits_for = runFn 2 3 (b_m_Hall_waits_for (csem (n + 1)) (csem n)) := rfl
theorem cs_m_Hall_turn (n : Nat) : csem (n + 2) .m_Hall_turn = runFn 2 2 (b_m_Hall_turn (csem (n + 1)) (csem n)) := rfl
theorem cs_m_Hall_worth (n : Nat) : csem (n + 2) .m_Hall_worth = runFn 2 2 (b_m_Hall_worth (csem (n + 1)) (csem n)) := rfl
theorem cs_m_Hall_finish (n : Nat) : csem (n + 2) .m_Hall_finish = runFn 1 2 (b_m_Hall_finish (csem (n + 1)) (csem n)) := rfl
theorem cs_m_Hall_store (n : Nat) : csem (n + 2) .m_Hall_store = runFn 1 1 (b_m_Hall_store (csem (n + 1)) (csem n)) := rfl
theorem cs_m_Hall_said (n : Nat) : csem (n + 2) .m_Hall_said = runFn 1 1 (b_m_Hall_said (csem (n + 1)) (csem n)) := rfl
theorem cs_f__law_refused (n : Nat) : csem (n + 2) .f__law_refused = runFn 1 2 (b_f__law_refused (csem (n + 1)) (csem n)) := rfl
theorem cs_f__law_going (n : Nat) : csem (n + 2) .f__law_going = runFn 3 5 (b_f__law_going (csem (n + 1)) (csem n)) := rfl
theorem cs_f__law_waits (n : Nat) : csem (n + 2) .f__law_waits = runFn 4 6 (b_f__law_waits (csem (n + 1)) (csem n)) := rfl
theorem cs_f__law_to_its_end (n : Nat) : csem (n + 2) .f__law_to_its_end = runFn 2 3 (b_f__law_to_its_end (csem (n + 1)) (csem n)) := rfl
theorem cs_f__law_is_refused (n : Nat) : csem (n + 2) .f__law_is_refused = runFn 2 2 (b_f__law_is_refused (csem (n + 1)) (csem n)) := rfl
theorem cs_f_words_for (n : Nat) : csem (n + 2) .f_words_for = runFn 1 3 (b_f_words_for (csem (n + 1)) (csem n)) := rfl
theorem cs_f_written (n : Nat) : csem (n + 2) .f_written = runFn 1 1 (b_f_written (csem (n + 1)) (csem n)) := rfl
theorem cs_m_Words_init (n : Nat) : csem (n + 2) .m_Words_init = runFn 2 2 (b_m_Words_init (csem (n + 1)) (csem n)) := rfl
theorem cs_m_Words_next_word (n : Nat) : csem (n + 2) .m_Words_next_word = runFn 1 1 (b_m_Words_next_word (csem (n + 1)) (csem n)) := rfl
theorem cs_m_Words_thing (n : Nat) : csem (n + 2) .m_Words_thing = runFn 3 4 (b_m_Words_thing (csem (n + 1)) (csem n)) := rfl
theorem cs_m_Words_row (n : Nat) : csem (n + 2) .m_Words_row = runFn 3 5 (b_m_Words_row (csem (n + 1)) (csem n)) := rfl
theorem cs_f_read (n : Nat) : csem (n + 2) .f_read = runFn 2 4 (b_f_read (csem (n + 1)) (csem n)) := rfl
theorem cs_f__law_read (n : Nat) : csem (n + 2) .f__law_read = runFn 2 7 (b_f__law_read (csem (n + 1)) (csem n)) := rfl
theorem cs_f__law_seen (n : Nat) : csem (n + 2) .f__law_seen = runFn 4 8 (b_f__law_seen (csem (n + 1)) (csem n)) := rfl
theorem cs_f__law_state (n : Nat) : csem (n + 2) .f__law_state = runFn 1 1 (b_f__law_state (csem (n + 1)) (csem n)) := rfl
theorem cs_f__law_refuses (n : Nat) : csem (n + 2) .f__law_refuses = runFn 3 4 (b_f__law_refuses (csem (n + 1)) (csem n)) := rfl
theorem cs_f__law_hall_stands (n : Nat) : csem (n + 2) .f__law_hall_stands = runFn 4 7 (b_f__law_hall_stands (csem (n + 1)) (csem n)) := rfl
end DL

set_option Elab.async false
set_option linter.all false
set_option maxRecDepth 100000
set_option maxHeartbeats 1000000
namespace DL
open PySem L2
/-! ### running a body by simp -/
theorem sE_ok {α : Type} {a : α} {S : Sto} {ε : Env} {k : α → Sto → R Fl} : sE (R.ok a S) ε k = k a S := rfl
theorem sN_nx {S : Sto} {ε : Env} {k : Env → Sto → R Fl} : sN (.ok (.nx ε) S) k = k ε S := rfl
theorem sN_rt {S : Sto} {d : D} {k : Env → Sto → R Fl} : sN (.ok (.rt d) S) k = .ok (.rt d) S := rfl
theorem dEq_int {S : Sto} {i j : Int} : dEq S (.int i) (.int j) = some (decide (i = j)) := rfl
theorem dEq_str {S : Sto} {i j : Str} : dEq S (.str i) (.str j) = some (decide (i = j)) := rfl
theorem dEq_bl {S : Sto} {i j : Bool} : dEq S (.bl i) (.bl j) = some (decide (i = j)) := rfl
theorem sE_ite {α : Type} {c : Prop} [Decidable c] {a b : R α} {ε : Env} {k : α → Sto → R Fl} : sE (if c then a else b) ε k = if c then sE a ε k else sE b ε k := by split <;> rfl
theorem sN_ite {c : Prop} [Decidable c] {a b : R Fl} {k : Env → Sto → R Fl} : sN (if c then a else b) k = if c then sN a k else sN b k := by split <;> rfl
theorem bind_ite {α β : Type} {c : Prop} [Decidable c] {a b : R α} {k : α → Sto → R β} : (if c then a else b).bind k = if c then a.bind k else b.bind k := by split <;> rfl
/-- the end of a body -/
def fin : R Fl → R D
  | .ok (.nx _) S' => .ok .non S'
  | .ok (.rt d) S' => .ok d S'
  | .ok (.ex c _) S' => .exc c S'
  | _ => .bad
theorem runFn_fin {np nN : Nat} {b : SDen} {ds : List D} {S : Sto} (h : ds.length = np) : runFn np nN b ds S = fin (b (ds.map some ++ List.replicate (nN - np) none) S) := by
  unfold runFn
  rw [if_pos h]
  cases b (ds.map some ++ List.replicate (nN - np) none) S with
  | ok f S' => cases f <;> rfl
  | _ => rfl
theorem fin_rt {d : D} {S : Sto} : fin (.ok (.rt d) S) = .ok d S := rfl
theorem fin_nx {ε : Env} {S : Sto} : fin (.ok (.nx ε) S) = .ok .non S := rfl
theorem fin_ite {c : Prop} [Decidable c] {a b : R Fl} : fin (if c then a else b) = if c then fin a else fin b := by split <;> rfl
theorem items_seq {S : Sto} {ds : List D} : items S (.seq ds) = some ds := rfl
theorem items_tup {S : Sto} {ds : List D} : items S (.tup ds) = some ds := rfl
section
variable {o o' : Op} {a b c : Den} {ba bb : DenB} {r : DenA} {p q : DenO} {ε : Env} {S : Sto} {d e : D} {i : Nat} {u v : SDen} {g : GDen} {gs : GDens} {ds : List D} {f : Fn} {n : Nat} {F : Fn} {m x : Str}
@[simp] theorem x_C : dC d ε S = .ok d S := rfl
@[simp] theorem x_Var {d : D} (h : ε[i]? = some (some d)) : dVar i ε S = .ok d S := by unfold dVar; rw [h]
@[simp] theorem x_Nil : dNil ε S = .ok [] S := rfl
@[simp] theorem x_Cons : dCons a r ε S = (a ε S).bind fun d S => (r ε S).bind fun ds S => .ok (d :: ds) S := rfl
@[simp] theorem x_Tup : dTup r ε S = (r ε S).bind mkTup := rfl
@[simp] theorem x_Lst : dLst r ε S = (r ε S).bind mkLst := rfl
@[simp] theorem x_Bin : dBin o a b ε S = (a ε S).bind fun d S => (b ε S).bind fun e S => o d e S := rfl
@[simp] theorem x_bind {α β : Type} {a : α} {k : α → Sto → R β} : (R.ok a S).bind k = k a S := rfl
@[simp] theorem x_bindB {α β : Type} {k : α → Sto → R β} : (R.bad : R α).bind k = .bad := rfl
@[simp] theorem x_bindX {α β : Type} {k : α → Sto → R β} : (R.exc x S : R α).bind k = .exc x S := rfl
@[simp] theorem x_Test {t : Bool} (h : a ε S = .ok (.bl t) S) : dTest a ε S = .ok t S := by unfold dTest; rw [h]; rfl
@[simp] theorem x_And : bAnd ba bb ε S = (ba ε S).bind fun c S => if c = true then bb ε S else .ok false S := rfl
@[simp] theorem x_Or : bOr ba bb ε S = (ba ε S).bind fun c S => if c = true then .ok true S else bb ε S := rfl
@[simp] theorem x_Not : bNot ba ε S = (ba ε S).bind fun c S => .ok (!c) S := rfl
@[simp] theorem x_If : dIf ba a b ε S = (ba ε S).bind fun k S => if k = true then a ε S else b ε S := rfl
@[simp] theorem x_Fn : dFn f r ε S = (r ε S).bind fun ds S => f ds S := rfl
@[simp] theorem x_Call : dCall n F r ε S = (r ε S).bind fun ds S => if ds.length = n then F ds S else .bad := rfl
@[simp] theorem x_NoPart : dNoPart ε S = .ok none S := rfl
@[simp] theorem x_Sl : dSl a p q ε S = (a ε S).bind fun d S => (p ε S).bind fun l S => (q ε S).bind fun u S => oSl d l u S := rfl
@[simp] theorem x_sNil : sNil ε S = .ok (.nx ε) S := rfl
@[simp] theorem x_Seq : sSeq u v ε S = sN (u ε S) v := rfl
@[simp] theorem x_Ret : sRet a ε S = sE (a ε S) ε fun d S => .ok (.rt d) S := rfl
@[simp] theorem x_Expr : sExpr a ε S = sE (a ε S) ε fun _ S => .ok (.nx ε) S := rfl
@[simp] theorem x_sIf : sIf ba u v ε S = sE (ba ε S) ε fun k S => if k = true then u ε S else v ε S := rfl
@[simp] theorem x_Asg : sAsg a g ε S = sE (a ε S) ε fun d S => match g d ε S with
  | some ε' => .ok (.nx ε') S
  | none => .bad := rfl
@[simp] theorem x_gN : gN i d ε S = some (ε.set i (some d)) := rfl
@[simp] theorem x_gsNil : gsNil [] ε S = some ε := rfl
@[simp] theorem x_gsCons : gsCons g gs (d :: ds) ε S = (g d ε S).bind fun ε => gs ds ε S := rfl
@[simp] theorem x_sE {α : Type} {a : α} {k : α → Sto → R Fl} : sE (R.ok a S) ε k = k a S := rfl
@[simp] theorem x_sN {k : Env → Sto → R Fl} : sN (.ok (.nx ε) S) k = k ε S := rfl
@[simp] theorem x_sNr {k : Env → Sto → R Fl} : sN (.ok (.rt d) S) k = .ok (.rt d) S := rfl
@[simp] theorem x_run {np nN : Nat} {b : SDen} (h : ds.length = np) : runFn np nN b ds S = fin (b (ds.map some ++ List.replicate (nN - np) none) S) := runFn_fin h
@[simp] theorem x_fin : fin (.ok (.rt d) S) = .ok d S := rfl
@[simp] theorem x_finN : fin (.ok (.nx ε) S) = .ok .non S := rfl
@[simp] theorem x_addI {i j : Int} : oAdd (.int i) (.int j) S = .ok (.int (i + j)) S := rfl
@[simp] theorem x_subI {i j : Int} : oSub (.int i) (.int j) S = .ok (.int (i - j)) S := rfl
@[simp] theorem x_modI {i j : Int} : oMod (.int i) (.int j) S = if 0 < j then .ok (.int (i % j)) S else .bad := rfl
@[simp] theorem x_divI {i j : Int} : oDiv (.int i) (.int j) S = if 0 < j ∧ j < 1073741824 then .ok (.int (i / j)) S else .bad := rfl
@[simp] theorem x_mulI {i j : Int} : oMul (.int i) (.int j) S = if (-(2 ^ 64) < i ∧ i < 2 ^ 64) ∨ (-(2 ^ 64) < j ∧ j < 2 ^ 64) then .ok (.int (i * j)) S else .bad := rfl
@[simp] theorem x_eqI {i j : Int} : oEq (.int i) (.int j) S = .ok (.bl (decide (i = j))) S := rfl
@[simp] theorem x_eqS {i j : Str} : oEq (.str i) (.str j) S = .ok (.bl (decide (i = j))) S := rfl
@[simp] theorem x_neI {i j : Int} : oNe (.int i) (.int j) S = .ok (.bl (!decide (i = j))) S := rfl
@[simp] theorem x_ltI {i j : Int} : oLt (.int i) (.int j) S = .ok (.bl (decide (i < j))) S := rfl
@[simp] theorem x_leI {i j : Int} : oLe (.int i) (.int j) S = .ok (.bl (decide (i ≤ j))) S := rfl
@[simp] theorem x_gtI {i j : Int} : oGt (.int i) (.int j) S = .ok (.bl (decide (j < i))) S := rfl
@[simp] theorem x_geI {i j : Int} : oGe (.int i) (.int j) S = .ok (.bl (decide (j ≤ i))) S := rfl
@[simp] theorem x_mkTup (h : ds.length ≤ 1000) : mkTup ds S = .ok (.tup ds) S := by unfold mkTup; rw [if_pos (show ds.length ≤ big from Nat.le_trans h (by decide))]
@[simp] theorem x_mkLst (h : ds.length ≤ 1000) : mkLst ds S = .ok (.ref S.length) (S ++ [.lst ds]) := by unfold mkLst; rw [if_pos (show ds.length ≤ big from Nat.le_trans h (by decide))]
@[simp] theorem x_lenT : fLen [.tup ds] S = .ok (.int ds.length) S := rfl
@[simp] theorem x_lenS : fLen [.seq ds] S = .ok (.int ds.length) S := rfl
end
theorem x_get {S : Sto} {d : D} {i : Int} {ds : List D} {e : D} (hd : dctAt S d = none) (h : items S d = some ds) (he : atI ds i = some e) : oGet d (.int i) S = .ok e S := by
  unfold oGet
  rw [hd]
  unfold oIx
  cases d <;> simp_all [items]
@[simp] theorem x_getT {S : Sto} {i : Int} {ds : List D} : oGet (.tup ds) (.int i) S = (match atI ds i with | some e => .ok e S | none => .bad) := rfl
@[simp] theorem x_getS {S : Sto} {i : Int} {ds : List D} : oGet (.seq ds) (.int i) S = (match atI ds i with | some e => .ok e S | none => .bad) := rfl
theorem atI_in {α : Type} {l : List α} {i : Int} (h0 : 0 ≤ i) (h1 : i < l.length) : atI l i = l[i.toNat]? := by
  unfold atI ixN
  rw [if_pos h0, if_pos h1]
  rfl
@[simp] theorem atI_0 {α : Type} {x : α} {l : List α} : atI (x :: l) 0 = some x := by rw [atI_in (by omega) (by simp)]; rfl
@[simp] theorem atI_1 {α : Type} {x y : α} {l : List α} : atI (x :: y :: l) 1 = some y := by rw [atI_in (by omega) (by simp; omega)]; rfl
@[simp] theorem atI_2 {α : Type} {x y z : α} {l : List α} : atI (x :: y :: z :: l) 2 = some z := by rw [atI_in (by omega) (by simp; omega)]; rfl
@[simp] theorem atI_3 {α : Type} {x y z w : α} {l : List α} : atI (x :: y :: z :: w :: l) 3 = some w := by rw [atI_in (by omega) (by simp; omega)]; rfl
/-! ### equality of data -/
mutual
def nb : PyData → Bool
  | .none => true
  | .bool _ => false
  | .int _ => true
  | .str _ => true
  | .list xs => nbs xs
  | .tuple xs => nbs xs
  | .dict _ => false
def nbs : List PyData → Bool
  | [] => true
  | x :: xs => nb x && nbs xs
end
mutual
theorem eqv_iff : ∀ p q : PyData, nb p = true → nb q = true → (PyData.eqv p q = true ↔ p = q)
  | .none, q, _, hq => by cases q <;> simp_all [nb, PyData.eqv]
  | .bool _, q, hp, _ => by simp [nb] at hp
  | .int _, q, _, hq => by cases q <;> simp_all [nb, PyData.eqv]
  | .str _, q, _, hq => by cases q <;> simp_all [nb, PyData.eqv]
  | .dict _, q, hp, _ => by simp [nb] at hp
  | .list xs, q, hp, hq => by
    cases q with
    | list ys =>
      have h := eqvs_iff xs ys (by simpa [nb] using hp) (by simpa [nb] using hq)
      simp [PyData.eqv, h]
    | _ => simp_all [nb, PyData.eqv]
  | .tuple xs, q, hp, hq => by
    cases q with
    | tuple ys =>
      have h := eqvs_iff xs ys (by simpa [nb] using hp) (by simpa [nb] using hq)
      simp [PyData.eqv, h]
    | _ => simp_all [nb, PyData.eqv]
theorem eqvs_iff : ∀ p q : List PyData, nbs p = true → nbs q = true → (PyData.eqvAll p q = true ↔ p = q)
  | [], q, _, _ => by cases q <;> simp [PyData.eqvAll]
  | x :: xs, q, hp, hq => by
    cases q with
    | nil => simp [PyData.eqvAll]
    | cons y ys =>
      simp only [nbs, Bool.and_eq_true] at hp hq
      simp [PyData.eqvAll, eqv_iff x y hp.1 hq.1, eqvs_iff xs ys hp.2 hq.2]
end
theorem frz_s {n : Nat} {S : Sto} {ds : List D} : frz (n + 1) S (.seq ds) = (fall (frz n S) ds).map .list := rfl
theorem frz_t {n : Nat} {S : Sto} {ds : List D} : frz (n + 1) S (.tup ds) = (fall (frz n S) ds).map .tuple := rfl
theorem frz_i {n : Nat} {S : Sto} {i : Int} : frz (n + 1) S (.int i) = some (.int i) := rfl
theorem frz_str {n : Nat} {S : Sto} {i : Str} : frz (n + 1) S (.str i) = some (.str i) := rfl
theorem frz_l {n m : Nat} {S : Sto} {ds : List D} (h : S[m]? = some (.lst ds)) : frz (n + 1) S (.ref m) = (fall (frz n S) ds).map .list := by
  unfold frz
  simp only [h]
theorem fall_cons {α β : Type} {f : α → Option β} {a : α} {r : List α} {b : β} {s : List β} (h : f a = some b) (hr : fall f r = some s) : fall f (a :: r) = some (b :: s) := by
  unfold fall
  rw [h, hr]
theorem frz_ints (n : Nat) (S : Sto) : ∀ ns : List Int, fall (frz (n + 1) S) (ns.map D.int) = some (ns.map PyData.int)
  | [] => rfl
  | i :: r => fall_cons frz_i (frz_ints n S r)
theorem nbs_ints : ∀ ns : List Int, nbs (ns.map PyData.int) = true
  | [] => rfl
  | i :: r => by simp [nbs, nb, nbs_ints r]
theorem lay_ints : ∀ ns : List Int, PyData.canLayAll0 (ns.map PyData.int) = true ∧ PyData.depthAll (ns.map PyData.int) ≤ 1
  | [] => ⟨rfl, by decide⟩
  | i :: r => by
    obtain ⟨a, b⟩ := lay_ints r
    refine ⟨by simp [PyData.canLayAll0, PyData.canLay0, a], ?_⟩
    simp only [List.map_cons, PyData.depthAll, PyData.depth]
    omega
theorem shaped_ints (ns : List Int) : SeqAt.shaped (.list (ns.map PyData.int)) = true := by
  obtain ⟨a, b⟩ := lay_ints ns
  have c : PyData.depth (.list (ns.map PyData.int)) ≤ 64 := by
    rw [PyData.depth]
    omega
  unfold SeqAt.shaped
  rw [PyData.canLay0, a, decide_eq_true c]
  rfl
/-- == of two that read as data -/
theorem dEq_frz {S : Sto} {d e : D} {p q : PyData} (hs : sEq d e = none) (hp : frz deep S d = some p) (hq : frz deep S e = some q) (sp : SeqAt.shaped p = true) (sq : SeqAt.shaped q = true) : dEq S d e = some (PyData.eqv p q) := by
  unfold dEq
  simp only [hs, hp, hq]
  rw [if_pos ⟨sp, sq⟩]
theorem dEq_ints {S : Sto} {ns : List Int} {n : Nat} (h : S[n]? = some (.lst [])) : dEq S (.seq (ns.map D.int)) (.ref n) = some (decide (ns = [])) := by
  have e1 : frz deep S (.seq (ns.map D.int)) = some (.list (ns.map PyData.int)) := by
    show (fall (frz (38 + 1) S) (ns.map D.int)).map PyData.list = _
    rw [frz_ints]
    rfl
  have e2 : frz deep S (.ref n) = some (.list []) := by
    show frz (39 + 1) S (.ref n) = _
    rw [frz_l h]
    rfl
  rw [dEq_frz rfl e1 e2 (shaped_ints ns) (shaped_ints [])]
  congr 1
  rw [Bool.eq_iff_iff, eqv_iff _ _ (by simp [nb, nbs_ints]) rfl]
  simp
/-- a value by reading alone: the store only gets longer -/
def Pur (f : Sto → R D) (d : D) : Prop := ∀ S, ∃ E, f S = .ok d (S ++ E)
def cellv (ns : List Int) (k : Int) : Int := if ns = [] then 7 * k else (ns[(k % (ns.length : Int)).toNat]?).getD 0 + 6553 * (k / (ns.length : Int))
theorem cell_sem (n : Nat) (ns : List Int) (k : Int) (hk : 0 ≤ k) (hl : ns.length ≤ 63) : Pur (csem (n + 2) .f__law_cell [.seq (ns.map D.int), .int k]) (.int (cellv ns k)) := fun S => by
  refine ⟨[.lst []], ?_⟩
  rw [cs_f__law_cell]
  have e : dEq (S ++ [O.lst []]) (.seq (ns.map D.int)) (.ref S.length) = some (decide (ns = [])) := dEq_ints (by simp)
  simp [b_f__law_cell, dTest, oEq, e]
  by_cases h : ns = []
  · simp [h, cellv]
  · have hp : 0 < (ns.length : Int) := by have := List.length_pos_iff.mpr h; omega
    have e1 := Int.emod_nonneg k (show (ns.length : Int) ≠ 0 by omega)
    have e2 := Int.emod_lt_of_pos k hp
    have e3 : atI (ns.map D.int) (k % (ns.length : Int)) = some (.int ((ns[(k % (ns.length : Int)).toNat]?).getD 0)) := by
      rw [atI_in e1 (by simpa using e2), List.getElem?_map, List.getElem?_eq_getElem (show (k % (ns.length : Int)).toNat < ns.length by omega)]
      rfl
    have e4 : (ns.length : Int) < 1073741824 := by omega
    simp [h, hp, List.length_pos_iff.mpr h, e3, e4, cellv]
/-- a step of the drawing -/
def drw (ns : List Int) (k m : Int) : Int :=
  let a := (cellv ns k % 2147483563 * 69069 + 104723 * (k + 1)) % 2147483563
  let b := (a * a + a / 3) % 2147483399
  (b * b + b / 7) % 2147483647 / 11 % m
theorem drw_lo (ns : List Int) (k : Int) {m : Int} (h : 0 < m) : 0 ≤ drw ns k m := Int.emod_nonneg _ (by omega)
theorem drw_hi (ns : List Int) (k : Int) {m : Int} (h : 0 < m) : drw ns k m < m := Int.emod_lt_of_pos _ h
theorem drawn_sem (n : Nat) (ns : List Int) (k m : Int) (hk : 0 ≤ k) (hm : 0 < m) (hl : ns.length ≤ 63) : Pur (csem (n + 3) .f__law_drawn [.seq (ns.map D.int), .int k, .int m]) (.int (drw ns k m)) := fun S => by
  obtain ⟨E, e⟩ := cell_sem n ns k hk hl S
  refine ⟨E, ?_⟩
  rw [cs_f__law_drawn]
  have b1 := Int.emod_nonneg (cellv ns k) (show (2147483563 : Int) ≠ 0 by decide)
  have b2 := Int.emod_lt_of_pos (cellv ns k) (show (0 : Int) < 2147483563 by decide)
  have c1 := Int.emod_nonneg (cellv ns k % 2147483563 * 69069 + 104723 * (k + 1)) (show (2147483563 : Int) ≠ 0 by decide)
  have c2 := Int.emod_lt_of_pos (cellv ns k % 2147483563 * 69069 + 104723 * (k + 1)) (show (0 : Int) < 2147483563 by decide)
  simp [b_f__law_drawn, e]
  generalize hA : (cellv ns k % 2147483563 * 69069 + 104723 * (k + 1)) % 2147483563 = A at *
  have t1 : -(2 ^ 64) < A ∧ A < 2 ^ 64 := by omega
  have c3 := Int.emod_nonneg (A * A + A / 3) (show (2147483399 : Int) ≠ 0 by decide)
  have c4 := Int.emod_lt_of_pos (A * A + A / 3) (show (0 : Int) < 2147483399 by decide)
  have t1' : -18446744073709551616 < A ∧ A < 18446744073709551616 := by omega
  simp [t1']
  generalize hB : (A * A + A / 3) % 2147483399 = B at *
  have t2 : -18446744073709551616 < B ∧ B < 18446744073709551616 := by omega
  simp [t2, hm, drw, hA, hB]
end DL

set_option Elab.async false
set_option linter.all false
set_option maxRecDepth 100000
set_option maxHeartbeats 1000000
namespace DL
open PySem L2
/-! ### deeds -/
inductive Two where
  | thn | add | les | lop
inductive Deed where
  | num (i : Int) | nam (x : Str) | dod (x : Str) | ask | rd (x : Str)
  | wr (x : Str) (a : Deed) | say (a : Deed) | lt (x : Str) (a b : Deed) | own (x : Str) (a b : Deed)
  | iff (a b c : Deed) | two (w : Two) (a b : Deed) | call (i : Nat) (ps hs : List Deed)
def Two.w : Two → Str
  | .thn => "then" | .add => "add" | .les => "less" | .lop => "loop"
def abcd : List Str := ["a", "b", "c", "d"]
/-- which kind of thing a word may name: 1 a worth, 2 an own shelf, 3 a handed deed -/
def kd (x : Str) : Nat := if x ∈ (["x", "y", "x1", "z"] : List Str) then 1 else if x ∈ (["p", "q"] : List Str) then 2 else if x ∈ (["f", "g1", "g"] : List Str) then 3 else 0
mutual
def enc : Deed → D
  | .num i => .tup [.str "number", .int i]
  | .nam x => .tup [.str "name", .str x]
  | .dod x => .tup [.str "do", .str x]
  | .ask => .tup [.str "ask"]
  | .rd x => .tup [.str "read", .str x]
  | .wr x a => .tup [.str "write", .str x, enc a]
  | .say a => .tup [.str "say", enc a]
  | .lt x a b => .tup [.str "let", .str x, enc a, enc b]
  | .own x a b => .tup [.str "own", .str x, enc a, enc b]
  | .iff a b c => .tup [.str "if", enc a, enc b, enc c]
  | .two w a b => .tup [.str w.w, enc a, enc b]
  | .call i ps hs => .tup [.str "call", .int i, .tup (encs ps), .tup (encs hs)]
def encs : List Deed → List D
  | [] => []
  | d :: ds => enc d :: encs ds
end
theorem encs_map : ∀ ds : List Deed, encs ds = ds.map enc
  | [] => rfl
  | d :: ds => by rw [encs, encs_map ds]; rfl
mutual
def dep : Deed → Nat
  | .num _ => 0 | .nam _ => 0 | .dod _ => 0 | .ask => 0 | .rd _ => 0
  | .wr _ a => dep a + 1
  | .say a => dep a + 1
  | .lt _ a b => max (dep a) (dep b) + 1
  | .own _ a b => max (dep a) (dep b) + 1
  | .iff a b c => max (dep a) (max (dep b) (dep c)) + 1
  | .two _ a b => max (dep a) (dep b) + 1
  | .call _ ps hs => max (deps ps) (deps hs) + 1
def deps : List Deed → Nat
  | [] => 0
  | d :: ds => max (dep d) (deps ds)
end
/-! a deed that is in order: K what is bound, sz how much each rule takes -/
mutual
def okD (sz : List (Nat × Nat)) (K : List Str) : Deed → Prop
  | .num i => 0 ≤ i ∧ i ≤ 1008
  | .nam x => x ∈ K ∧ kd x = 1
  | .dod x => x ∈ K ∧ kd x = 3
  | .ask => True
  | .rd x => (x ∈ K ∧ kd x = 2) ∨ x ∈ abcd
  | .wr x a => ((x ∈ K ∧ kd x = 2) ∨ x ∈ abcd) ∧ okD sz K a
  | .say a => okD sz K a
  | .lt x a b => kd x = 1 ∧ okD sz K a ∧ okD sz (x :: K) b
  | .own x a b => kd x = 2 ∧ okD sz K a ∧ okD sz (x :: K) b
  | .iff a b c => okD sz K a ∧ okD sz K b ∧ okD sz K c
  | .two _ a b => okD sz K a ∧ okD sz K b
  | .call i ps hs => sz[i]? = some (ps.length, hs.length) ∧ okDs sz K ps ∧ okDs sz K hs
def okDs (sz : List (Nat × Nat)) (K : List Str) : List Deed → Prop
  | [] => True
  | d :: ds => okD sz K d ∧ okDs sz K ds
end
theorem okDs_iff {sz : List (Nat × Nat)} {K : List Str} : ∀ {ds : List Deed}, okDs sz K ds ↔ ∀ d ∈ ds, okD sz K d
  | [] => by simp [okDs]
  | d :: ds => by simp [okDs, okDs_iff (ds := ds)]
theorem sub_cons {x : Str} {K K' : List Str} (hk : ∀ y ∈ K, y ∈ K') : ∀ y ∈ x :: K, y ∈ x :: K' := fun y hy => by
  rcases List.mem_cons.mp hy with e | e
  · rw [e]; exact List.mem_cons_self
  · exact List.mem_cons_of_mem _ (hk y e)
/-! more may be bound, in any order -/
mutual
theorem okD_mono {sz : List (Nat × Nat)} {sz' : List (Nat × Nat)} (hz : ∀ (i : Nat) (p : Nat × Nat), sz[i]? = some p → sz'[i]? = some p) : ∀ {K K' : List Str} (d : Deed), (∀ x ∈ K, x ∈ K') → okD sz K d → okD sz' K' d
  | _, _, .num i, _, h => h
  | _, _, .nam x, hk, h => ⟨hk _ h.1, h.2⟩
  | _, _, .dod x, hk, h => ⟨hk _ h.1, h.2⟩
  | _, _, .ask, _, h => trivial
  | _, _, .rd x, hk, h => h.imp (fun q => ⟨hk _ q.1, q.2⟩) id
  | _, _, .wr x a, hk, h => ⟨h.1.imp (fun q => ⟨hk _ q.1, q.2⟩) id, okD_mono hz a hk h.2⟩
  | _, _, .say a, hk, h => okD_mono hz a hk h
  | _, _, .lt x a b, hk, h => ⟨h.1, okD_mono hz a hk h.2.1, okD_mono hz b (sub_cons hk) h.2.2⟩
  | _, _, .own x a b, hk, h => ⟨h.1, okD_mono hz a hk h.2.1, okD_mono hz b (sub_cons hk) h.2.2⟩
  | _, _, .iff a b c, hk, h => ⟨okD_mono hz a hk h.1, okD_mono hz b hk h.2.1, okD_mono hz c hk h.2.2⟩
  | _, _, .two _ a b, hk, h => ⟨okD_mono hz a hk h.1, okD_mono hz b hk h.2⟩
  | _, _, .call i ps hs, hk, h => ⟨hz _ _ h.1, okDs_mono hz ps hk h.2.1, okDs_mono hz hs hk h.2.2⟩
theorem okDs_mono {sz : List (Nat × Nat)} {sz' : List (Nat × Nat)} (hz : ∀ (i : Nat) (p : Nat × Nat), sz[i]? = some p → sz'[i]? = some p) : ∀ {K K' : List Str} (ds : List Deed), (∀ x ∈ K, x ∈ K') → okDs sz K ds → okDs sz' K' ds
  | _, _, [], _, _ => trivial
  | _, _, d :: ds, hk, h => ⟨okD_mono hz d hk h.1, okDs_mono hz ds hk h.2⟩
end
/-! ### a deed as data -/
mutual
def pyd : Deed → PyData
  | .num i => .tuple [.str "number", .int i]
  | .nam x => .tuple [.str "name", .str x]
  | .dod x => .tuple [.str "do", .str x]
  | .ask => .tuple [.str "ask"]
  | .rd x => .tuple [.str "read", .str x]
  | .wr x a => .tuple [.str "write", .str x, pyd a]
  | .say a => .tuple [.str "say", pyd a]
  | .lt x a b => .tuple [.str "let", .str x, pyd a, pyd b]
  | .own x a b => .tuple [.str "own", .str x, pyd a, pyd b]
  | .iff a b c => .tuple [.str "if", pyd a, pyd b, pyd c]
  | .two w a b => .tuple [.str w.w, pyd a, pyd b]
  | .call i ps hs => .tuple [.str "call", .int i, .tuple (pyds ps), .tuple (pyds hs)]
def pyds : List Deed → List PyData
  | [] => []
  | d :: ds => pyd d :: pyds ds
end
theorem fall_nil {α β : Type} {f : α → Option β} : fall f [] = some [] := rfl
theorem fall_ok {α β : Type} {f : α → Option β} {a : α} {r : List α} {b : β} (h : f a = some b) : fall f (a :: r) = (fall f r).map (b :: ·) := by
  simp only [fall, h]
  cases fall f r <;> rfl
mutual
theorem frz_enc {S : Sto} : ∀ (d : Deed) (n : Nat), 2 * dep d + 2 ≤ n → frz n S (enc d) = some (pyd d)
  | d, 0, h => by omega
  | d, 1, h => by omega
  | .num i, n + 2, h => rfl
  | .nam x, n + 2, h => rfl
  | .dod x, n + 2, h => rfl
  | .ask, n + 2, h => rfl
  | .rd x, n + 2, h => rfl
  | .wr x a, n + 2, h => by
    have e := frz_enc (S := S) a (n + 1) (by simp only [dep] at h; omega)
    simp [enc, pyd, frz_t, frz_str, fall_ok e, fall_ok frz_str, fall_nil]
  | .say a, n + 2, h => by
    have e := frz_enc (S := S) a (n + 1) (by simp only [dep] at h; omega)
    simp [enc, pyd, frz_t, frz_str, fall_ok e, fall_ok frz_str, fall_nil]
  | .lt x a b, n + 2, h => by
    have e := frz_enc (S := S) a (n + 1) (by simp only [dep] at h; omega)
    have e2 := frz_enc (S := S) b (n + 1) (by simp only [dep] at h; omega)
    simp [enc, pyd, frz_t, frz_str, fall_ok e, fall_ok e2, fall_ok frz_str, fall_nil]
  | .own x a b, n + 2, h => by
    have e := frz_enc (S := S) a (n + 1) (by simp only [dep] at h; omega)
    have e2 := frz_enc (S := S) b (n + 1) (by simp only [dep] at h; omega)
    simp [enc, pyd, frz_t, frz_str, fall_ok e, fall_ok e2, fall_ok frz_str, fall_nil]
  | .iff a b c, n + 2, h => by
    have e := frz_enc (S := S) a (n + 1) (by simp only [dep] at h; omega)
    have e2 := frz_enc (S := S) b (n + 1) (by simp only [dep] at h; omega)
    have e3 := frz_enc (S := S) c (n + 1) (by simp only [dep] at h; omega)
    simp [enc, pyd, frz_t, frz_str, fall_ok e, fall_ok e2, fall_ok e3, fall_ok frz_str, fall_nil]
  | .two w a b, n + 2, h => by
    have e := frz_enc (S := S) a (n + 1) (by simp only [dep] at h; omega)
    have e2 := frz_enc (S := S) b (n + 1) (by simp only [dep] at h; omega)
    simp [enc, pyd, frz_t, frz_str, fall_ok e, fall_ok e2, fall_ok frz_str, fall_nil]
  | .call i ps hs, n + 2, h => by
    have e := frz_encs (S := S) ps n (by simp only [dep] at h; omega)
    have e2 := frz_encs (S := S) hs n (by simp only [dep] at h; omega)
    have t1 : frz (n + 1) S (.tup (encs ps)) = some (.tuple (pyds ps)) := by rw [frz_t, e]; rfl
    have t2 : frz (n + 1) S (.tup (encs hs)) = some (.tuple (pyds hs)) := by rw [frz_t, e2]; rfl
    simp [enc, pyd, frz_t, frz_str, fall_ok t1, fall_ok t2, fall_ok frz_str, fall_ok frz_i, fall_nil]
theorem frz_encs {S : Sto} : ∀ (ds : List Deed) (n : Nat), 2 * deps ds + 2 ≤ n → fall (frz n S) (encs ds) = some (pyds ds)
  | [], n, _ => rfl
  | d :: ds, n, h => by
    simp only [deps] at h
    exact fall_cons (frz_enc d n (by omega)) (frz_encs ds n (by omega))
end
def sok (x : Str) : Bool := PyData.canLay0 (.str x)
theorem sok_1 : ∀ x ∈ (["x", "y", "x1", "z"] : List Str), sok x = true := by decide +kernel
theorem sok_2 : ∀ x ∈ (["p", "q"] : List Str), sok x = true := by decide +kernel
theorem sok_3 : ∀ x ∈ (["f", "g1", "g"] : List Str), sok x = true := by decide +kernel
theorem sok_kd {x : Str} (h : kd x ≠ 0) : sok x = true := by
  unfold kd at h
  split at h
  · rename_i q
    exact sok_1 x q
  · split at h
    · rename_i q
      exact sok_2 x q
    · split at h
      · rename_i q
        exact sok_3 x q
      · exact absurd rfl h
theorem sok_abcd : ∀ x ∈ abcd, sok x = true := by decide +kernel
def Lay (p : PyData) (k : Nat) : Prop := PyData.canLay0 p = true ∧ PyData.depth p ≤ k
def Lays (p : List PyData) (k : Nat) : Prop := PyData.canLayAll0 p = true ∧ PyData.depthAll p ≤ k
theorem Lay.str {x : Str} (h : sok x = true) (k : Nat) : Lay (.str x) k := ⟨h, by rw [PyData.depth]; omega⟩
theorem Lay.int (i : Int) (k : Nat) : Lay (.int i) k := ⟨rfl, by rw [PyData.depth]; omega⟩
theorem Lays.nil (k : Nat) : Lays [] k := ⟨rfl, by rw [PyData.depthAll]; omega⟩
theorem Lays.cons {p : PyData} {ps : List PyData} {k : Nat} (h : Lay p k) (hs : Lays ps k) : Lays (p :: ps) k :=
  ⟨by rw [PyData.canLayAll0, h.1, hs.1]; rfl, by rw [PyData.depthAll]; exact Nat.max_le.mpr ⟨h.2, hs.2⟩⟩
theorem Lay.tup {ps : List PyData} {k : Nat} (h : Lays ps k) : Lay (.tuple ps) (k + 1) := ⟨by rw [PyData.canLay0]; exact h.1, by rw [PyData.depth]; exact Nat.succ_le_succ h.2⟩
theorem Lay.lst {ps : List PyData} {k : Nat} (h : Lays ps k) : Lay (.list ps) (k + 1) := ⟨by rw [PyData.canLay0]; exact h.1, by rw [PyData.depth]; exact Nat.succ_le_succ h.2⟩
theorem Lay.mono {p : PyData} {k j : Nat} (h : Lay p k) (hj : k ≤ j) : Lay p j := ⟨h.1, Nat.le_trans h.2 hj⟩
theorem Lays.mono {p : List PyData} {k j : Nat} (h : Lays p k) (hj : k ≤ j) : Lays p j := ⟨h.1, Nat.le_trans h.2 hj⟩
theorem Lay.shaped {p : PyData} {k : Nat} (h : Lay p k) (hk : k ≤ 64) : SeqAt.shaped p = true := by
  unfold SeqAt.shaped
  rw [h.1, decide_eq_true (Nat.le_trans h.2 hk)]
  rfl
theorem sok_1' {x : Str} (h : kd x = 1) : sok x = true := sok_kd (by rw [h]; decide)
theorem sok_2' {x : Str} (h : kd x = 2) : sok x = true := sok_kd (by rw [h]; decide)
theorem sok_3' {x : Str} (h : kd x = 3) : sok x = true := sok_kd (by rw [h]; decide)
theorem sok_sh {x : Str} {K : List Str} (h : (x ∈ K ∧ kd x = 2) ∨ x ∈ abcd) : sok x = true := h.elim (fun h => sok_2' h.2) fun h => sok_abcd x h
/-! a deed in order reads as data in order -/
mutual
theorem lay_deed {sz : List (Nat × Nat)} : ∀ (d : Deed) (K : List Str) (k : Nat), okD sz K d → 2 * dep d + 2 ≤ k → Lay (pyd d) k
  | _, _, 0, _, hk => by omega
  | _, _, 1, _, hk => by omega
  | .num i, K, k + 2, h, hk => .tup (.cons (.str (by decide +kernel) _) (.cons (.int _ _) (.nil _)))
  | .nam x, K, k + 2, h, hk => .tup (.cons (.str (by decide +kernel) _) (.cons (.str (sok_1' h.2) _) (.nil _)))
  | .dod x, K, k + 2, h, hk => .tup (.cons (.str (by decide +kernel) _) (.cons (.str (sok_3' h.2) _) (.nil _)))
  | .ask, K, k + 2, h, hk => .tup (.cons (.str (by decide +kernel) _) (.nil _))
  | .rd x, K, k + 2, h, hk => .tup (.cons (.str (by decide +kernel) _) (.cons (.str (sok_sh h) _) (.nil _)))
  | .wr x a, K, k + 2, h, hk => .tup (.cons (.str (by decide +kernel) _) (.cons (.str (sok_sh h.1) _) (.cons (lay_deed a K (k + 1) h.2 (by simp only [dep] at hk; omega)) (.nil _))))
  | .say a, K, k + 2, h, hk => .tup (.cons (.str (by decide +kernel) _) (.cons (lay_deed a K (k + 1) h (by simp only [dep] at hk; omega)) (.nil _)))
  | .lt x a b, K, k + 2, h, hk => .tup (.cons (.str (by decide +kernel) _) (.cons (.str (sok_1' h.1) _) (.cons (lay_deed a K (k + 1) h.2.1 (by simp only [dep] at hk; omega)) (.cons (lay_deed b (x :: K) (k + 1) h.2.2 (by simp only [dep] at hk; omega)) (.nil _)))))
  | .own x a b, K, k + 2, h, hk => .tup (.cons (.str (by decide +kernel) _) (.cons (.str (sok_2' h.1) _) (.cons (lay_deed a K (k + 1) h.2.1 (by simp only [dep] at hk; omega)) (.cons (lay_deed b (x :: K) (k + 1) h.2.2 (by simp only [dep] at hk; omega)) (.nil _)))))
  | .iff a b c, K, k + 2, h, hk => .tup (.cons (.str (by decide +kernel) _) (.cons (lay_deed a K (k + 1) h.1 (by simp only [dep] at hk; omega)) (.cons (lay_deed b K (k + 1) h.2.1 (by simp only [dep] at hk; omega)) (.cons (lay_deed c K (k + 1) h.2.2 (by simp only [dep] at hk; omega)) (.nil _)))))
  | .two w a b, K, k + 2, h, hk => .tup (.cons (.str (by cases w <;> decide +kernel) _) (.cons (lay_deed a K (k + 1) h.1 (by simp only [dep] at hk; omega)) (.cons (lay_deed b K (k + 1) h.2 (by simp only [dep] at hk; omega)) (.nil _))))
  | .call i ps hs, K, k + 2, h, hk => .tup (.cons (.str (by decide +kernel) _) (.cons (.int _ _) (.cons (.tup (lay_deeds ps K k h.2.1 (by simp only [dep] at hk; omega))) (.cons (.tup (lay_deeds hs K k h.2.2 (by simp only [dep] at hk; omega))) (.nil _)))))
theorem lay_deeds {sz : List (Nat × Nat)} : ∀ (ds : List Deed) (K : List Str) (k : Nat), okDs sz K ds → 2 * deps ds + 2 ≤ k → Lays (pyds ds) k
  | [], K, k, _, _ => .nil _
  | d :: ds, K, k, h, hk => by
    simp only [deps] at hk
    exact .cons (lay_deed d K k h.1 (by omega)) (lay_deeds ds K k h.2 (by omega))
end
/-! ### rules -/
structure Rule where
  ns : List Str
  hs : List Str
  b : Deed
def tstr (xs : List Str) : D := .tup (xs.map .str)
def encR (r : Rule) : D := .tup [tstr r.ns, tstr r.hs, enc r.b]
def encRs (rs : List Rule) : D := .tup (rs.map encR)
def szs (rs : List Rule) : List (Nat × Nat) := rs.map fun r => (r.ns.length, r.hs.length)
/-- rules in order: each one's body calls but those ahead of it; the newest is the last -/
structure okRl (sz : List (Nat × Nat)) (r : Rule) : Prop where
  n : ∀ x ∈ r.ns, kd x = 1
  h : ∀ x ∈ r.hs, kd x = 3
  nn : r.ns.Nodup
  nh : r.hs.Nodup
  b : okD sz (r.ns ++ r.hs) r.b
def okRs (rs : List Rule) : Prop := ∀ i r, rs[i]? = some r → okRl (szs (rs.take i)) r
def pyR (r : Rule) : PyData := .tuple [.tuple (r.ns.map .str), .tuple (r.hs.map .str), pyd r.b]
theorem fall_map {α β γ : Type} {f : β → Option γ} {g : α → β} {h : α → γ} : ∀ {l : List α}, (∀ a ∈ l, f (g a) = some (h a)) → fall f (l.map g) = some (l.map h)
  | [], _ => rfl
  | a :: r, k => fall_cons (k a List.mem_cons_self) (fall_map fun b hb => k b (List.mem_cons_of_mem _ hb))
theorem lays_map {α : Type} {g : α → PyData} {k : Nat} : ∀ {l : List α}, (∀ a ∈ l, Lay (g a) k) → Lays (l.map g) k
  | [], _ => .nil _
  | a :: r, h => .cons (h a List.mem_cons_self) (lays_map fun b hb => h b (List.mem_cons_of_mem _ hb))
theorem frz_tstr (S : Sto) (n : Nat) (xs : List Str) : frz (n + 2) S (tstr xs) = some (.tuple (xs.map .str)) := by
  unfold tstr
  rw [frz_t, fall_map (h := PyData.str) fun a _ => frz_str]
  rfl
theorem frz_rule {S : Sto} {r : Rule} {n : Nat} (h : 2 * dep r.b + 2 ≤ n + 2) : frz (n + 3) S (encR r) = some (pyR r) := by
  unfold encR
  rw [frz_t, fall_ok (frz_tstr S n _), fall_ok (frz_tstr S n _), fall_ok (frz_enc r.b _ h), fall_nil]
  rfl
theorem frz_rules {S : Sto} {rs : List Rule} {n : Nat} (h : ∀ r ∈ rs, 2 * dep r.b + 2 ≤ n + 2) : frz (n + 4) S (encRs rs) = some (.tuple (rs.map pyR)) := by
  unfold encRs
  rw [frz_t, fall_map (h := pyR) fun r hr => frz_rule (h r hr)]
  rfl
theorem lay_rule {sz : List (Nat × Nat)} {r : Rule} {k : Nat} (o : okRl sz r) (h : 2 * dep r.b + 2 ≤ k + 1) : Lay (pyR r) (k + 2) :=
  .tup (.cons (.tup (lays_map fun x hx => .str (sok_1' (o.n x hx)) _)) (.cons (.tup (lays_map fun x hx => .str (sok_3' (o.h x hx)) _)) (.cons (lay_deed r.b _ _ o.b h) (.nil _))))
theorem lay_rules {rs : List Rule} {k : Nat} (o : okRs rs) (h : ∀ r ∈ rs, 2 * dep r.b + 2 ≤ k + 1) : Lay (.tuple (rs.map pyR)) (k + 3) :=
  .tup (lays_map fun r hr => by
    obtain ⟨i, hi⟩ := List.getElem?_of_mem hr
    exact lay_rule (o i r hi) (h r hr))
end DL

set_option Elab.async false
set_option linter.all false
set_option maxRecDepth 100000
set_option maxHeartbeats 1000000
namespace DL
open PySem L2
/-! ### what only reads: its value, whatever the store -/
def PurE (B : Sto) (a : Den) (ε : Env) (d : D) : Prop := ∀ S, B <+: S → ∃ E, a ε S = .ok d (S ++ E)
def PurA (B : Sto) (a : DenA) (ε : Env) (ds : List D) : Prop := ∀ S, B <+: S → ∃ E, a ε S = .ok ds (S ++ E)
def PurB (B : Sto) (a : DenB) (ε : Env) (b : Bool) : Prop := ∀ S, B <+: S → ∃ E, a ε S = .ok b (S ++ E)
def PurS (B : Sto) (a : SDen) (ε : Env) (f : Fl) : Prop := ∀ S, B <+: S → ∃ E, a ε S = .ok f (S ++ E)
theorem pre_app {B S E : Sto} (h : B <+: S) : B <+: S ++ E := h.trans (List.prefix_append _ _)
section
variable {B : Sto} {o : Op} {a b c : Den} {ba bb : DenB} {r : DenA} {ε ε' : Env} {d e x : D} {i n : Nat} {u v w : SDen} {g : GDen} {ds : List D} {f : Fn} {F : Fn} {fl : Fl} {t t' : Bool} {j : Int}
theorem pC : PurE B (dC d) ε d := fun S hS => ⟨[], by simp⟩
theorem pV (h : ε[i]? = some (some d) := by rfl) : PurE B (dVar i) ε d := fun S hS => ⟨[], by simp [h]⟩
theorem pN : PurA B dNil ε [] := fun S hS => ⟨[], by simp⟩
theorem pK (ha : PurE B a ε d) (hr : PurA B r ε ds) : PurA B (dCons a r) ε (d :: ds) := fun S hS => by
  obtain ⟨E, e1⟩ := ha S hS
  obtain ⟨E2, e2⟩ := hr (S ++ E) (pre_app hS)
  exact ⟨E ++ E2, by simp [e1, e2]⟩
theorem pT (hr : PurA B r ε ds) (h : ds.length ≤ 1000 := by simp) : PurE B (dTup r) ε (.tup ds) := fun S hS => by
  obtain ⟨E, e1⟩ := hr S hS
  exact ⟨E, by simp [e1, h]⟩
theorem pCall (hr : PurA B r ε ds) (hF : Pur (F ds) d) (h : ds.length = n := by rfl) : PurE B (dCall n F r) ε d := fun S hS => by
  obtain ⟨E, e1⟩ := hr S hS
  obtain ⟨E2, e2⟩ := hF (S ++ E)
  exact ⟨E ++ E2, by simp [e1, e2, h]⟩
theorem pO (ha : PurE B a ε d) (hb : PurE B b ε e) (h : ∀ S, o d e S = .ok x S) : PurE B (dBin o a b) ε x := fun S hS => by
  obtain ⟨E, e1⟩ := ha S hS
  obtain ⟨E2, e2⟩ := hb (S ++ E) (pre_app hS)
  exact ⟨E ++ E2, by simp [e1, e2, h]⟩
theorem pPick (hr : PurA B r ε ds) (hb : PurE B b ε (.int j)) (h : atI ds j = some x) (hl : ds.length ≤ 1000 := by simp) : PurE B (dBin oGet (dLst r) b) ε x := fun S hS => by
  obtain ⟨E, e1⟩ := hr S hS
  obtain ⟨E2, e2⟩ := hb (S ++ E ++ [.lst ds]) (pre_app (pre_app hS))
  refine ⟨E ++ [.lst ds] ++ E2, ?_⟩
  have q : (S ++ E ++ [O.lst ds] ++ E2)[(S ++ E).length]? = some (.lst ds) := by simp
  have z : oGet (.ref (S ++ E).length) (.int j) (S ++ E ++ [O.lst ds] ++ E2) = .ok x (S ++ E ++ [O.lst ds] ++ E2) := x_get (ds := ds) (by simp only [dctAt, q]) (by simp only [items, q]) h
  simp only [x_Bin, x_Lst, e1, x_bind, x_mkLst hl, e2, z]
  simp
theorem pF (hr : PurA B r ε ds) (h : ∀ S, f ds S = .ok x S) : PurE B (dFn f r) ε x := fun S hS => by
  obtain ⟨E, e1⟩ := hr S hS
  exact ⟨E, by simp [e1, h]⟩
theorem pSl0 (ha : PurE B a ε (.tup ds)) (hb : PurE B b ε (.int j)) : PurE B (dSl a (dPart b) dNoPart) ε (.tup (cutD ds (some j) none)) := fun S hS => by
  obtain ⟨E, e1⟩ := ha S hS
  obtain ⟨E2, e2⟩ := hb (S ++ E) (pre_app hS)
  exact ⟨E ++ E2, by simp [e1, e2, dPart, oSl]⟩
theorem pB (ha : PurE B a ε (.bl t)) : PurB B (dTest a) ε t := fun S hS => by
  obtain ⟨E, e1⟩ := ha S hS
  exact ⟨E, by unfold dTest; rw [e1]; rfl⟩
theorem pNot (ha : PurB B ba ε t) : PurB B (bNot ba) ε (!t) := fun S hS => by
  obtain ⟨E, e1⟩ := ha S hS
  exact ⟨E, by simp [e1]⟩
theorem pAnd (ha : PurB B ba ε t) (hb : t = true → PurB B bb ε t') : PurB B (bAnd ba bb) ε (t && t') := fun S hS => by
  obtain ⟨E, e1⟩ := ha S hS
  cases t with
  | false => exact ⟨E, by simp [e1]⟩
  | true =>
    obtain ⟨E2, e2⟩ := hb rfl (S ++ E) (pre_app hS)
    exact ⟨E ++ E2, by simp [e1, e2]⟩
theorem pAndB {r : Bool} (ha : PurB B ba ε t) (hb : t = true → PurB B bb ε t') (h : (t && t') = r) : PurB B (bAnd ba bb) ε r := by
  rw [← h]
  exact pAnd ha hb
theorem pOr (ha : PurB B ba ε t) (hb : t = false → PurB B bb ε t') : PurB B (bOr ba bb) ε (t || t') := fun S hS => by
  obtain ⟨E, e1⟩ := ha S hS
  cases t with
  | true => exact ⟨E, by simp [e1]⟩
  | false =>
    obtain ⟨E2, e2⟩ := hb rfl (S ++ E) (pre_app hS)
    exact ⟨E ++ E2, by simp [e1, e2]⟩
theorem pOrB {r : Bool} (ha : PurB B ba ε t) (hb : t = false → PurB B bb ε t') (h : (t || t') = r) : PurB B (bOr ba bb) ε r := by
  rw [← h]
  exact pOr ha hb
theorem pRet (ha : PurE B a ε d) : PurS B (sRet a) ε (.rt d) := fun S hS => by
  obtain ⟨E, e1⟩ := ha S hS
  exact ⟨E, by simp [e1]⟩
/-- x = a; .. -/
theorem pLet (ha : PurE B a ε d) (hg : ∀ S, g d ε S = some ε') (hw : PurS B w ε' fl) : PurS B (sSeq (sAsg a g) w) ε fl := fun S hS => by
  obtain ⟨E, e1⟩ := ha S hS
  obtain ⟨E2, e2⟩ := hw (S ++ E) (pre_app hS)
  exact ⟨E ++ E2, by simp [e1, hg, e2]⟩
theorem pAsg (ha : PurE B a ε d) (hg : ∀ S, g d ε S = some ε') : PurS B (sAsg a g) ε (.nx ε') := fun S hS => by
  obtain ⟨E, e1⟩ := ha S hS
  exact ⟨E, by simp [e1, hg]⟩
/-- if c: return ..; c False -/
theorem pSkip (hc : PurB B ba ε false) (hw : PurS B w ε fl) : PurS B (sSeq (sIf ba u sNil) w) ε fl := fun S hS => by
  obtain ⟨E, e1⟩ := hc S hS
  obtain ⟨E2, e2⟩ := hw (S ++ E) (pre_app hS)
  exact ⟨E ++ E2, by simp [e1, e2]⟩
theorem pTake (hc : PurB B ba ε true) (hu : PurS B u ε (.rt d)) : PurS B (sSeq (sIf ba u v) w) ε (.rt d) := fun S hS => by
  obtain ⟨E, e1⟩ := hc S hS
  obtain ⟨E2, e2⟩ := hu (S ++ E) (pre_app hS)
  exact ⟨E ++ E2, by simp [e1, e2]⟩
theorem pIfT (hc : PurB B ba ε true) (hu : PurS B u ε fl) : PurS B (sIf ba u v) ε fl := fun S hS => by
  obtain ⟨E, e1⟩ := hc S hS
  obtain ⟨E2, e2⟩ := hu (S ++ E) (pre_app hS)
  exact ⟨E ++ E2, by simp [e1, e2]⟩
theorem pIfF (hc : PurB B ba ε false) (hu : PurS B v ε fl) : PurS B (sIf ba u v) ε fl := fun S hS => by
  obtain ⟨E, e1⟩ := hc S hS
  obtain ⟨E2, e2⟩ := hu (S ++ E) (pre_app hS)
  exact ⟨E ++ E2, by simp [e1, e2]⟩
theorem pSeq (hu : PurS B u ε (.nx ε')) (hw : PurS B w ε' fl) : PurS B (sSeq u w) ε fl := fun S hS => by
  obtain ⟨E, e1⟩ := hu S hS
  obtain ⟨E2, e2⟩ := hw (S ++ E) (pre_app hS)
  exact ⟨E ++ E2, by simp [e1, e2]⟩
theorem pSeqR (hu : PurS B u ε (.rt d)) : PurS B (sSeq u w) ε (.rt d) := fun S hS => by
  obtain ⟨E, e1⟩ := hu S hS
  exact ⟨E, by simp [e1]⟩
/-- .. of a def whose arguments are read in the base store -/
def PurR (B : Sto) (f : Sto → R D) (d : D) : Prop := ∀ S, B <+: S → ∃ E, f S = .ok d (S ++ E)
theorem Pur.rel {f : Sto → R D} (h : Pur f d) : PurR B f d := fun S _ => h S
theorem PurR.at {f : Sto → R D} (h : PurR [] f d) : Pur f d := fun S => h S (List.nil_prefix)
theorem pur_runR {np nN : Nat} {b : SDen} (h : PurS B b (ds.map some ++ List.replicate (nN - np) none) (.rt d)) (hl : ds.length = np := by rfl) : PurR B (runFn np nN b ds) d := fun S hS => by
  obtain ⟨E, e1⟩ := h S hS
  exact ⟨E, by rw [runFn_fin hl, e1]; rfl⟩
theorem pur_run {np nN : Nat} {b : SDen} (h : PurS [] b (ds.map some ++ List.replicate (nN - np) none) (.rt d)) (hl : ds.length = np := by rfl) : Pur (runFn np nN b ds) d := (pur_runR h hl).at
theorem pCallR (hr : PurA B r ε ds) (hF : PurR B (F ds) d) (h : ds.length = n := by rfl) : PurE B (dCall n F r) ε d := fun S hS => by
  obtain ⟨E, e1⟩ := hr S hS
  obtain ⟨E2, e2⟩ := hF (S ++ E) (pre_app hS)
  exact ⟨E ++ E2, by simp [e1, e2, h]⟩
end
/-! ### drawing -/
variable {B : Sto}
/-- a script -/
def scr (ns : List Int) : D := .seq (ns.map D.int)
theorem pDrawn {n : Nat} {ns : List Int} {k m : Int} {ε : Env} {a b c : Den} (hl : ns.length ≤ 63) (hk : 0 ≤ k) (hm : 0 < m) (ha : PurE B a ε (scr ns)) (hb : PurE B b ε (.int k)) (hc : PurE B c ε (.int m)) : PurE B (dCall 3 (csem (n + 3) .f__law_drawn) (dCons a (dCons b (dCons c dNil)))) ε (.int (drw ns k m)) :=
  pCall (pK ha (pK hb (pK hc pN))) (drawn_sem n ns k m hk hm hl)
/-- one of some, drawn -/
theorem drw_pick {α : Type} (ns : List Int) (k : Int) {l : List α} (h : l ≠ []) : ∃ x ∈ l, atI l (drw ns k l.length) = some x := by
  have hp : 0 < (l.length : Int) := by have := List.length_pos_iff.mpr h; omega
  have h0 := drw_lo ns k hp
  have h1 := drw_hi ns k hp
  have h2 : (drw ns k l.length).toNat < l.length := by omega
  exact ⟨l[(drw ns k l.length).toNat], List.getElem_mem h2, by rw [atI_in h0 h1, List.getElem?_eq_getElem h2]⟩
theorem atI_map {α β : Type} {f : α → β} {l : List α} {i : Int} {x : α} (h : atI l i = some x) : atI (l.map f) i = some (f x) := by
  unfold atI at h ⊢
  rw [List.length_map]
  cases e : ixN l.length i with
  | none => rw [e] at h; cases h
  | some j =>
    rw [e] at h
    have h' : l[j]? = some x := h
    show (l.map f)[j]? = some (f x)
    rw [List.getElem?_map, h']
    rfl
theorem oNe_nil {ds : List D} {p : List PyData} {k : Nat} {S : Sto} (h : fall (frz 39 S) ds = some p) (hp : Lays p k) (hk : k ≤ 63) : oNe (.tup ds) (.tup []) S = .ok (.bl (!decide (ds = []))) S := by
  have e1 : frz deep S (.tup ds) = some (.tuple p) := by
    show frz (39 + 1) S (.tup ds) = _
    rw [frz_t, h]
    rfl
  unfold oNe
  rw [dEq_frz rfl e1 (show frz deep S (.tup []) = some (.tuple []) from rfl) ((Lay.tup hp).shaped (by omega)) ((Lay.tup (Lays.nil 0)).shaped (by decide))]
  have hl : p = [] ↔ ds = [] := by
    cases ds with
    | nil => have e : some [] = some p := h; cases e; simp
    | cons a r =>
      simp only [reduceCtorEq, iff_false]
      rintro rfl
      unfold fall at h
      split at h <;> cases h
  have e3 : PyData.eqv (.tuple p) (.tuple []) = decide (ds = []) := by
    rw [PyData.eqv]
    cases p with
    | nil => simp [hl.mp rfl, PyData.eqvAll]
    | cons a r =>
      have : ds ≠ [] := fun q => by have := hl.mpr q; cases this
      simp [this, PyData.eqvAll]
  rw [e3]
theorem pNe_str {xs : List Str} {a : Den} {ε : Env} (h : ∀ x ∈ xs, sok x = true) (ha : PurE B a ε (tstr xs)) : PurE B (dBin oNe a (dTup dNil)) ε (.bl (!decide (xs = []))) :=
  pO ha (pT pN) fun S => by
    have e := oNe_nil (S := S) (k := 1) (fall_map (f := frz 39 S) (g := D.str) (h := PyData.str) fun a _ => frz_str) (lays_map fun x hx => .str (h x hx) 1) (by decide)
    unfold tstr
    rw [e]
    simp
def encK (ns os hs : List Str) : D := .tup [tstr ns, tstr os, tstr hs]
structure KnOk (ns os hs : List Str) : Prop where
  n : ∀ x ∈ ns, kd x = 1
  o : ∀ x ∈ os, kd x = 2
  h : ∀ x ∈ hs, kd x = 3
  ln : ns.length ≤ 100
  lo : os.length ≤ 100
  lh : hs.length ≤ 100
/-- ("a", "b", "c", "d") + owns * 3 -/
def shv (os : List Str) : List Str := abcd ++ (os ++ (os ++ os))
theorem pShv {os : List Str} {a : Den} {ε : Env} (hl : os.length ≤ 100) (ha : PurE B a ε (tstr os)) : PurE B (dBin oAdd (dTup (dCons (dC (.str "a")) (dCons (dC (.str "b")) (dCons (dC (.str "c")) (dCons (dC (.str "d")) dNil))))) (dBin oMul a (dC (.int 3)))) ε (tstr (shv os)) := by
  have h1 : PurE B (dBin oMul a (dC (.int 3))) ε (tstr (os ++ (os ++ os))) := pO ha pC fun S => by
    unfold tstr oMul
    by_cases h : os = []
    · subst h; simp
    · simp [h, show os.length ≤ 1000 by omega, List.replicate_succ]
  refine pO (pT (pK pC (pK pC (pK pC (pK pC pN))))) h1 fun S => ?_
  have hb : 4 + (os ++ (os ++ os)).length ≤ big := by simp [big]; omega
  unfold tstr oAdd shv abcd
  simp only [List.length_map, List.length_cons, List.length_nil, Nat.zero_add, Nat.reduceAdd]
  rw [if_pos hb]
  simp
theorem shv_ok {ns os hs : List Str} {x : Str} (k : KnOk ns os hs) (h : x ∈ shv os) : (x ∈ ns ++ os ++ hs ∧ kd x = 2) ∨ x ∈ abcd := by
  unfold shv at h
  rcases List.mem_append.mp h with h | h
  · exact .inr h
  · have : x ∈ os := by simpa using h
    exact .inl ⟨by simp [this], k.o x this⟩
theorem pLenT {xs : List Str} {a : Den} {ε : Env} (ha : PurE B a ε (tstr xs)) : PurE B (dFn fLen (dCons a dNil)) ε (.int xs.length) := pF (pK ha pN) fun S => by
  unfold tstr
  simp
theorem pGetT {xs : List Str} {i : Int} {x : Str} {a b : Den} {ε : Env} (ha : PurE B a ε (tstr xs)) (hb : PurE B b ε (.int i)) (h : atI xs i = some x) : PurE B (dBin oGet a b) ε (.str x) := pO ha hb fun S => by
  unfold tstr
  simp [atI_map h]
theorem pI {f : Int → Int → Int} {o : Op} {a b : Den} {ε : Env} {i j : Int} (ho : ∀ S, o (.int i) (.int j) S = .ok (.int (f i j)) S) (ha : PurE B a ε (.int i)) (hb : PurE B b ε (.int j)) : PurE B (dBin o a b) ε (.int (f i j)) := pO ha hb ho
theorem pAdd {a b : Den} {ε : Env} {i j : Int} (ha : PurE B a ε (.int i)) (hb : PurE B b ε (.int j)) : PurE B (dBin oAdd a b) ε (.int (i + j)) := pO ha hb fun _ => rfl
theorem pSub {a b : Den} {ε : Env} {i j : Int} (ha : PurE B a ε (.int i)) (hb : PurE B b ε (.int j)) : PurE B (dBin oSub a b) ε (.int (i - j)) := pO ha hb fun _ => rfl
theorem pMulR {a b : Den} {ε : Env} {i j : Int} (ha : PurE B a ε (.int i)) (hb : PurE B b ε (.int j)) (h : -(2 ^ 64) < j ∧ j < 2 ^ 64 := by decide) : PurE B (dBin oMul a b) ε (.int (i * j)) := pO ha hb fun _ => by
  rw [x_mulI, if_pos (.inr h)]
theorem pMulL {a b : Den} {ε : Env} {i j : Int} (ha : PurE B a ε (.int i)) (hb : PurE B b ε (.int j)) (h : -(2 ^ 64) < i ∧ i < 2 ^ 64 := by decide) : PurE B (dBin oMul a b) ε (.int (i * j)) := pO ha hb fun _ => by
  rw [x_mulI, if_pos (.inl h)]
theorem pLtI {a b : Den} {ε : Env} {i j : Int} {t : Bool} (ha : PurE B a ε (.int i)) (hb : PurE B b ε (.int j)) (h : decide (i < j) = t) : PurB B (dTest (dBin oLt a b)) ε t := pB (pO ha hb fun _ => by rw [x_ltI, h])
theorem pEqI {a b : Den} {ε : Env} {i j : Int} {t : Bool} (ha : PurE B a ε (.int i)) (hb : PurE B b ε (.int j)) (h : decide (i = j) = t) : PurB B (dTest (dBin oEq a b)) ε t := pB (pO ha hb fun _ => by rw [x_eqI, h])
theorem leaf_sem (n : Nat) (ns : List Int) (t : Int) {nm os hs : List Str} (sz : List (Nat × Nat)) (ht : 0 ≤ t) (hl : ns.length ≤ 63) (k : KnOk nm os hs) : ∃ d, Pur (csem (n + 4) .f__law_leaf [scr ns, .int t, encK nm os hs]) (enc d) ∧ okD sz (nm ++ os ++ hs) d ∧ dep d = 0 := by
  rw [cs_f__law_leaf]
  have w0 := drw_lo ns t (m := 8) (by decide)
  have w1 := drw_hi ns t (m := 8) (by decide)
  generalize hw : drw ns t 8 = w at w0 w1
  have hK : ∀ S, gT 3 (gsCons (gN 3) (gsCons (gN 4) (gsCons (gN 5) gsNil))) (encK nm os hs) [some (scr ns), some (D.int t), some (encK nm os hs), none, none, none, none, none] S = some [some (scr ns), some (D.int t), some (encK nm os hs), some (tstr nm), some (tstr os), some (tstr hs), none, none] := fun S => rfl
  have beg : ∀ {fl : Fl} {rest : SDen}, PurS [] rest [some (scr ns), some (D.int t), some (encK nm os hs), some (tstr nm), some (tstr os), some (tstr hs), some (.int w), none] fl →
      PurS [] (sSeq (sAsg (dVar 2) (gT 3 (gsCons (gN 3) (gsCons (gN 4) (gsCons (gN 5) gsNil))))) (sSeq (sAsg (dCall 3 (csem (n + 3) .f__law_drawn) (dCons (dVar 0) (dCons (dVar 1) (dCons (dC (.int 8)) dNil)))) (gN 6)) rest)) [some (scr ns), some (D.int t), some (encK nm os hs), none, none, none, none, none] fl := fun h => by
    refine pLet pV hK (pLet (pDrawn hl ht (by decide) pV pV pC) (fun S => rfl) ?_)
    rw [hw]
    exact h
  have t1 : (0 : Int) ≤ t + 1 := by omega
  by_cases c1 : w < 2
  · obtain ⟨v, hv, hp⟩ := drw_pick ns (t + 1) (l := ([0, 1, 2, 3, 7, 1008] : List Int)) (by simp)
    have hv' : 0 ≤ v ∧ v ≤ 1008 := by simp at hv; omega
    refine ⟨.num v, pur_run (beg (pTake (pLtI pV pC (by simp [c1])) (pRet (pT (pK pC (pK ?_ pN)))))), hv', rfl⟩
    refine pPick (pK pC (pK pC (pK pC (pK pC (pK pC (pK pC pN)))))) (pDrawn hl t1 (by decide) pV (pAdd pV pC) pC) ?_
    exact atI_map (f := D.int) hp
  have s1 : PurB [] (dTest (dBin oLt (dVar 6) (dC (.int 2)))) [some (scr ns), some (D.int t), some (encK nm os hs), some (tstr nm), some (tstr os), some (tstr hs), some (.int w), none] false := pLtI pV pC (by simp [c1])
  have sokn : ∀ x ∈ nm, sok x = true := fun x hx => sok_1' (k.n x hx)
  have sokh : ∀ x ∈ hs, sok x = true := fun x hx => sok_3' (k.h x hx)
  by_cases c2 : w = 2 ∧ nm ≠ []
  · obtain ⟨v, hv, hp⟩ := drw_pick ns (t + 1) c2.2
    have hm : 0 < (nm.length : Int) := by have := List.length_pos_iff.mpr c2.2; omega
    refine ⟨.nam v, pur_run (beg (pSkip s1 (pTake ?_ (pRet (pT (pK pC (pK ?_ pN))))))), ⟨by simp [hv], k.n v hv⟩, rfl⟩
    · exact pAndB (pEqI pV pC rfl) (fun _ => pB (pNe_str sokn pV)) (by simp [c2.1, c2.2])
    · exact pGetT pV (pDrawn hl t1 hm pV (pAdd pV pC) (pLenT pV)) hp
  have s2 : PurB [] (bAnd (dTest (dBin oEq (dVar 6) (dC (.int 2)))) (dTest (dBin oNe (dVar 3) (dTup dNil)))) [some (scr ns), some (D.int t), some (encK nm os hs), some (tstr nm), some (tstr os), some (tstr hs), some (.int w), none] false :=
    pAndB (pEqI pV pC rfl) (fun _ => pB (pNe_str sokn pV)) (by by_cases q : w = 2 <;> simp_all)
  by_cases c3 : w = 3 ∧ hs ≠ []
  · obtain ⟨v, hv, hp⟩ := drw_pick ns (t + 1) c3.2
    have hm : 0 < (hs.length : Int) := by have := List.length_pos_iff.mpr c3.2; omega
    refine ⟨.dod v, pur_run (beg (pSkip s1 (pSkip s2 (pTake ?_ (pRet (pT (pK pC (pK ?_ pN)))))))), ⟨by simp [hv], k.h v hv⟩, rfl⟩
    · exact pAndB (pEqI pV pC rfl) (fun _ => pB (pNe_str sokh pV)) (by simp [c3.1, c3.2])
    · exact pGetT pV (pDrawn hl t1 hm pV (pAdd pV pC) (pLenT pV)) hp
  have s3 : PurB [] (bAnd (dTest (dBin oEq (dVar 6) (dC (.int 3)))) (dTest (dBin oNe (dVar 5) (dTup dNil)))) [some (scr ns), some (D.int t), some (encK nm os hs), some (tstr nm), some (tstr os), some (tstr hs), some (.int w), none] false :=
    pAndB (pEqI pV pC rfl) (fun _ => pB (pNe_str sokh pV)) (by by_cases q : w = 3 <;> simp_all)
  by_cases c4 : w = 4
  · exact ⟨.ask, pur_run (beg (pSkip s1 (pSkip s2 (pSkip s3 (pTake (pEqI pV pC (by simp [c4])) (pRet (pT (pK pC pN)))))))), trivial, rfl⟩
  · have hne : shv os ≠ [] := by simp [shv, abcd]
    obtain ⟨v, hv, hp⟩ := drw_pick ns (t + 1) hne
    have hm : 0 < ((shv os).length : Int) := by have := List.length_pos_iff.mpr hne; omega
    refine ⟨.rd v, pur_run (beg (pSkip s1 (pSkip s2 (pSkip s3 (pSkip (pEqI pV pC (by simp [c4])) (pLet (pShv k.lo pV) (fun _ => rfl) (pRet (pT (pK pC (pK ?_ pN)))))))))), shv_ok k hv, rfl⟩
    exact pGetT pV (pDrawn hl t1 hm pV (pAdd pV pC) (pLenT pV)) hp
/-! ### deeds drawn -/
theorem pNe_rules {rs : List Rule} {a : Den} {ε : Env} (o : okRs rs) (hd : ∀ r ∈ rs, dep r.b ≤ 10) (ha : PurE B a ε (encRs rs)) : PurE B (dBin oNe a (dTup dNil)) ε (.bl (!decide (rs = []))) :=
  pO ha (pT pN) fun S => by
    have e := oNe_nil (S := S) (k := 40) (fall_map (f := frz 39 S) (g := encR) (h := pyR) fun r hr => frz_rule (n := 36) (by have := hd r hr; omega)) (lays_map fun r hr => by
      obtain ⟨i, hi⟩ := List.getElem?_of_mem hr
      exact (lay_rule (k := 30) (o i r hi) (by have := hd r hr; omega)).mono (by omega)) (by decide)
    unfold encRs
    rw [e]
    simp
theorem pGetRule {rs : List Rule} {i : Int} {r : Rule} {a b : Den} {ε : Env} (ha : PurE B a ε (encRs rs)) (hb : PurE B b ε (.int i)) (h : atI rs i = some r) : PurE B (dBin oGet a b) ε (encR r) := pO ha hb fun S => by
  unfold encRs
  simp [atI_map h]
theorem pGet {ds : List D} {i : Int} {x : D} {a b : Den} {ε : Env} (ha : PurE B a ε (.tup ds)) (hb : PurE B b ε (.int i)) (h : atI ds i = some x := by simp) : PurE B (dBin oGet a b) ε x := pO ha hb fun S => by
  simp [h]
end DL

set_option Elab.async false
set_option linter.all false
set_option maxRecDepth 100000
set_option maxHeartbeats 1000000
namespace DL
open PySem L2
theorem nums_get {m i : Nat} : (nums 0 m)[i]? = if i < m then some (.int (i : Int)) else none := by
  unfold nums
  rw [List.getElem?_map]
  by_cases h : i < m
  · rw [if_pos h, List.getElem?_eq_getElem (by simpa using h)]
    simp
  · rw [if_neg h, List.getElem?_eq_none (by simpa using h)]
    rfl
theorem mid_get {α : Type} {A B : List α} {x : α} : (A ++ [x] ++ B)[A.length]? = some x := by simp
theorem mid_set {α : Type} {A B : List α} {x y : α} : (A ++ [x] ++ B).set A.length y = A ++ [y] ++ B := by simp
/-- for v in range(m): xs.append(a) -/
theorem for_app {m jl jv : Nat} {A : Sto} {ε : Env} {dd : Nat → D} {a : Den} (hl : ε[jl]? = some (some (.ref A.length))) (hn : jl ≠ jv) (hm : m ≤ 1000) (ha : ∀ k : Nat, PurE [] a (ε.set jv (some (.int k))) (dd k)) :
    ∀ (c i : Nat) (v : Option D) (B : Sto), i + c = m → ∃ v' B', forI (fun _ => some (nums 0 m)) (gN jv) (sExpr (dAppend (dVar jl) a)) (c + 1) i (ε.set jv v) (A ++ [.lst ((List.range i).map dd)] ++ B) = .ok (.nx (ε.set jv v')) (A ++ [.lst ((List.range m).map dd)] ++ B')
  | 0, i, v, B, h => by
    obtain rfl : i = m := by omega
    refine ⟨v, B, ?_⟩
    unfold forI
    simp only [nums_get, if_neg (Nat.lt_irrefl i)]
  | c + 1, i, v, B, h => by
    obtain ⟨E, e⟩ := ha i (A ++ [.lst ((List.range i).map dd)] ++ B) List.nil_prefix
    obtain ⟨v', B', r⟩ := for_app hl hn hm ha c (i + 1) (some (.int i)) (B ++ E) (by omega)
    refine ⟨v', B', ?_⟩
    unfold forI
    have hv : dVar jl (ε.set jv (some (D.int i))) (A ++ [O.lst ((List.range i).map dd)] ++ B) = .ok (.ref A.length) (A ++ [O.lst ((List.range i).map dd)] ++ B) := x_Var (by rw [List.getElem?_set_ne (Ne.symm hn)]; exact hl)
    have g1 : lstAt (A ++ [O.lst ((List.range i).map dd)] ++ B) (.ref A.length) = some (A.length, (List.range i).map dd) := by
      unfold lstAt
      simp only [mid_get]
    have g2 : lstAt (A ++ [O.lst ((List.range i).map dd)] ++ B ++ E) (.ref A.length) = some (A.length, (List.range i).map dd) := by
      unfold lstAt
      rw [List.append_assoc]
      simp only [mid_get]
    have hb : ((List.range i).map dd).length < big := by rw [List.length_map, List.length_range]; exact Nat.lt_of_lt_of_le (show i < 1001 by omega) (by decide)
    have st : (A ++ [O.lst ((List.range i).map dd)] ++ B ++ E).set A.length (.lst ((List.range i).map dd ++ [dd i])) = A ++ [.lst ((List.range (i + 1)).map dd)] ++ (B ++ E) := by
      rw [List.append_assoc, mid_set, List.range_succ, List.map_append]
      rfl
    have body : sExpr (dAppend (dVar jl) a) (ε.set jv (some (D.int i))) (A ++ [O.lst ((List.range i).map dd)] ++ B) = .ok (.nx (ε.set jv (some (D.int i)))) (A ++ [.lst ((List.range (i + 1)).map dd)] ++ (B ++ E)) := by
      rw [x_Expr]
      unfold dAppend
      simp only [hv, x_bind, g1, e, g2, if_pos hb, st, x_sE]
    simp only [nums_get, if_pos (show i < m by omega), x_gN, List.set_set, body]
    exact r
theorem oSl_lo {S : Sto} {n : Nat} {ds : List D} {k : Nat} (h : S[n]? = some (.lst ds)) (hd : ds.length ≤ 1000) (hk : k ≤ ds.length) : oSl (.ref n) none (some (k : Int)) S = .ok (.ref S.length) (S ++ [.lst (ds.take k)]) := by
  unfold oSl
  simp only [h]
  rw [if_pos (Nat.le_trans hd (by decide))]
  unfold cutD
  rw [HT.sIx_nat, HT.sIx_none, Nat.min_eq_left hk]
  simp
theorem oSl_hi {S : Sto} {n : Nat} {ds : List D} {k : Nat} (h : S[n]? = some (.lst ds)) (hd : ds.length ≤ 1000) (hk : k ≤ ds.length) : oSl (.ref n) (some (k : Int)) none S = .ok (.ref S.length) (S ++ [.lst (ds.drop k)]) := by
  unfold oSl
  simp only [h]
  rw [if_pos (Nat.le_trans hd (by decide))]
  unfold cutD
  rw [HT.sIx_nat, HT.sIx_none, Nat.min_eq_left hk]
  congr 4
  rw [List.take_of_length_le]
  simp
theorem fTuple_ref {S : Sto} {n : Nat} {ds : List D} (h : S[n]? = some (.lst ds)) : fTuple [.ref n] S = .ok (.tup ds) S := by
  unfold fTuple items
  simp only [h]
theorem okR_of {i : Int} (h : 0 ≤ i) (h2 : i ≤ 100000) : okR i := by
  unfold okR
  constructor <;> omega
theorem iRange1_of {a : Den} {ε : Env} {S S' : Sto} {j : Int} (h : okR j) (ha : a ε S = .ok (.int j) S') : iRange1 a ε S = .ok (fun _ => some (nums 0 j.toNat)) S' := by
  unfold iRange1
  rw [ha, x_bind]
  show (if okR j then _ else _) = _
  rw [if_pos h]
theorem sFor_of {it : IDen} {g : GDen} {b : SDen} {ε ε' : Env} {S S1 S2 : Sto} {m : Nat} (hi : it ε S = .ok (fun _ => some (nums 0 m)) S1) (hf : forI (fun _ => some (nums 0 m)) g b (m + 1) 0 ε S1 = .ok (.nx ε') S2) : sFor it g b ε S = .ok (.nx ε') S2 := by
  unfold sFor
  rw [hi, x_sE]
  show forI _ g b ((nums 0 m).length + 1) 0 ε S1 = _
  rw [nums_len]
  exact hf
theorem big_gt {n : Nat} (h : n ≤ 1000) : n ≤ big := Nat.le_trans h (by decide)
theorem getLast_app {α : Type} {A : List α} {x : α} : (A ++ [x])[A.length]? = some x := by simp
theorem call_sem (n deep : Nat) (ns : List Int) (t : Int) {kn : D} {K : List Str} {rs : List Rule} (ht : 0 ≤ t) (hl : ns.length ≤ 63) (hr : rs ≠ []) (hs : ∀ r ∈ rs, r.ns.length ≤ 100 ∧ r.hs.length ≤ 100)
    (ih : ∀ t : Int, 0 ≤ t → ∃ d, Pur (csem (n + 3) .f__law_deed [scr ns, .int t, .int deep, kn, encRs rs]) (enc d) ∧ okD (szs rs) K d ∧ dep d ≤ deep) :
    ∃ d, Pur (csem (n + 4) .f__law_call [scr ns, .int t, .int ((deep : Int) + 1), kn, encRs rs]) (enc d) ∧ okD (szs rs) K d ∧ dep d ≤ deep + 1 := by
  obtain ⟨r, hrm, hpick⟩ := drw_pick ns (t + 3) hr
  have hlen : 0 < (rs.length : Int) := by have := List.length_pos_iff.mpr hr; omega
  obtain ⟨h1, h2⟩ := hs r hrm
  have w0 := drw_lo ns (t + 3) hlen
  have w1 := drw_hi ns (t + 3) hlen
  generalize hw : drw ns (t + 3) (rs.length : Int) = w at w0 w1 hpick
  let dd : Nat → Deed := fun k => Classical.choose (ih (t * 3 + 7 + 5 * (k : Int)) (by omega))
  have hdd : ∀ k : Nat, Pur (csem (n + 3) .f__law_deed [scr ns, .int (t * 3 + 7 + 5 * (k : Int)), .int deep, kn, encRs rs]) (enc (dd k)) ∧ okD (szs rs) K (dd k) ∧ dep (dd k) ≤ deep := fun k => Classical.choose_spec (ih (t * 3 + 7 + 5 * (k : Int)) (by omega))
  clear_value dd
  let m := r.ns.length + r.hs.length
  let ds : List Deed := (List.range m).map dd
  have hds : ∀ d ∈ ds, okD (szs rs) K d ∧ dep d ≤ deep := fun d hd => by
    obtain ⟨k, _, rfl⟩ := List.mem_map.mp hd
    exact (hdd k).2
  have dsl : ds.length = m := by simp [ds]
  have deps_le : ∀ xs : List Deed, (∀ d ∈ xs, dep d ≤ deep) → deps xs ≤ deep := by
    intro xs
    induction xs with
    | nil => intro _; exact Nat.zero_le _
    | cons a b q => intro h; exact Nat.max_le.mpr ⟨h a List.mem_cons_self, q fun d hd => h d (List.mem_cons_of_mem _ hd)⟩
  refine ⟨.call w.toNat (ds.take r.ns.length) (ds.drop r.ns.length), ?_, ⟨?_, okDs_iff.mpr fun d hd => (hds d (List.mem_of_mem_take hd)).1, okDs_iff.mpr fun d hd => (hds d (List.mem_of_mem_drop hd)).1⟩, ?_⟩
  · have hrw : (w.toNat : Int) = w := by omega
    rw [cs_f__law_call]
    refine pur_run ?_
    unfold b_f__law_call
    have t3 : (0 : Int) ≤ t + 3 := by omega
    refine pLet (pDrawn hl t3 hlen pV (pAdd pV pC) ?_) (fun S => rfl) ?_
    · exact pF (pK pV pN) fun S => by unfold encRs; simp
    rw [hw]
    refine pLet (pLenT (xs := r.ns) (pGet (pGetRule pV pV hpick) pC)) (fun S => rfl) ?_
    intro S _
    have ev : (List.map some [scr ns, D.int t, D.int ((deep : Int) + 1), kn, encRs rs] ++ List.replicate (9 - 5) none).set 5 (some (D.int w)) = [some (scr ns), some (D.int t), some (D.int ((deep : Int) + 1)), some kn, some (encRs rs), some (.int w), none, none, none] := rfl
    simp only [ev, List.set_cons_succ, List.set_cons_zero, x_Seq, x_Asg, x_Lst, x_Nil, x_bind, x_mkLst (show ([] : List D).length ≤ 1000 by decide), x_sE, x_gN, x_sN]
    -- the loop's bound
    have hm : PurE [] (dBin oAdd (dVar 6) (dFn fLen (dCons (dBin oGet (dBin oGet (dVar 4) (dVar 5)) (dC (.int 1))) dNil))) [some (scr ns), some (D.int t), some (D.int ((deep : Int) + 1)), some kn, some (encRs rs), some (.int w), some (.int r.ns.length), some (.ref S.length), none] (.int ((r.ns.length : Int) + (r.hs.length : Int))) :=
      pAdd pV (pLenT (xs := r.hs) (pGet (pGetRule pV pV hpick) pC))
    obtain ⟨E0, e0⟩ := hm (S ++ [.lst []]) List.nil_prefix
    have ok1 : okR ((r.ns.length : Int) + (r.hs.length : Int)) := okR_of (by omega) (by omega)
    have emi : ((r.ns.length : Int) + (r.hs.length : Int)).toNat = m := by omega
    obtain ⟨v', B', loop⟩ := for_app (m := m) (jl := 7) (jv := 8) (A := S) (ε := [some (scr ns), some (D.int t), some (D.int ((deep : Int) + 1)), some kn, some (encRs rs), some (.int w), some (.int r.ns.length), some (.ref S.length), none]) (dd := fun k => enc (dd k))
      (a := dCall 5 (csem (n + 3) .f__law_deed) (dCons (dVar 0) (dCons (dBin oAdd (dBin oAdd (dBin oMul (dVar 1) (dC (.int 3))) (dC (.int 7))) (dBin oMul (dC (.int 5)) (dVar 8))) (dCons (dBin oSub (dVar 2) (dC (.int 1))) (dCons (dVar 3) (dCons (dVar 4) dNil))))))
      rfl (by decide) (by omega) (fun k => by
        refine pCall (pK pV (pK (pAdd (pAdd (pMulR pV pC) pC) (pMulL pC (pV (d := .int k)))) (pK (pSub pV pC) (pK pV (pK pV pN))))) ?_
        have e : (deep : Int) + 1 - 1 = deep := by omega
        rw [e]
        exact (hdd k).1) m 0 none E0 (by omega)
    have hlst : (List.range m).map (fun k => enc (dd k)) = encs ds := by simp [ds, encs_map, Function.comp_def]
    rw [hlst] at loop
    have floop : sFor (iRange1 (dBin oAdd (dVar 6) (dFn fLen (dCons (dBin oGet (dBin oGet (dVar 4) (dVar 5)) (dC (.int 1))) dNil)))) (gN 8) (sExpr (dAppend (dVar 7) (dCall 5 (csem (n + 3) .f__law_deed) (dCons (dVar 0) (dCons (dBin oAdd (dBin oAdd (dBin oMul (dVar 1) (dC (.int 3))) (dC (.int 7))) (dBin oMul (dC (.int 5)) (dVar 8))) (dCons (dBin oSub (dVar 2) (dC (.int 1))) (dCons (dVar 3) (dCons (dVar 4) dNil))))))))
        [some (scr ns), some (D.int t), some (D.int ((deep : Int) + 1)), some kn, some (encRs rs), some (.int w), some (.int r.ns.length), some (.ref S.length), none] (S ++ [.lst []]) = .ok (.nx [some (scr ns), some (D.int t), some (D.int ((deep : Int) + 1)), some kn, some (encRs rs), some (.int w), some (.int r.ns.length), some (.ref S.length), v']) (S ++ [.lst (encs ds)] ++ B') := by
      have it := iRange1_of ok1 e0
      rw [emi] at it
      exact sFor_of it loop
    rw [floop]
    have g1 : (S ++ [O.lst (encs ds)] ++ B')[S.length]? = some (.lst (encs ds)) := mid_get
    have el : (encs ds).length = m := by rw [encs_map, List.length_map, dsl]
    have a1 := oSl_lo (k := r.ns.length) g1 (by omega) (by omega)
    have g2 : (S ++ [O.lst (encs ds)] ++ B' ++ [O.lst ((encs ds).take r.ns.length)])[S.length]? = some (.lst (encs ds)) := by
      rw [List.getElem?_append_left (List.getElem?_eq_some_iff.mp g1).1]
      exact g1
    have a2 := oSl_hi (k := r.ns.length) g2 (by omega) (by omega)
    refine ⟨[O.lst (encs ds)] ++ B' ++ [O.lst ((encs ds).take r.ns.length)] ++ [O.lst ((encs ds).drop r.ns.length)], ?_⟩
    have f1 := fTuple_ref (getLast_app (A := S ++ [O.lst (encs ds)] ++ B') (x := O.lst ((encs ds).take r.ns.length)))
    have f2 := fTuple_ref (getLast_app (A := S ++ [O.lst (encs ds)] ++ B' ++ [O.lst ((encs ds).take r.ns.length)]) (x := O.lst ((encs ds).drop r.ns.length)))
    have v5 : dVar 5 [some (scr ns), some (D.int t), some (D.int ((deep : Int) + 1)), some kn, some (encRs rs), some (.int w), some (.int r.ns.length), some (.ref S.length), v'] = fun S => .ok (.int w) S := rfl
    have v6 : dVar 6 [some (scr ns), some (D.int t), some (D.int ((deep : Int) + 1)), some kn, some (encRs rs), some (.int w), some (.int r.ns.length), some (.ref S.length), v'] = fun S => .ok (.int r.ns.length) S := rfl
    have v7 : dVar 7 [some (scr ns), some (D.int t), some (D.int ((deep : Int) + 1)), some kn, some (encRs rs), some (.int w), some (.int r.ns.length), some (.ref S.length), v'] = fun S' => .ok (.ref S.length) S' := rfl
    simp only [x_sN, x_Ret, x_Tup, x_Cons, x_C, x_bind, v5, v6, v7, x_Fn, x_Sl, x_NoPart, dPart, a1, a2, f1, f2, x_Nil, x_mkTup (show [D.str "call", D.int w, D.tup ((encs ds).take r.ns.length), D.tup ((encs ds).drop r.ns.length)].length ≤ 1000 by simp), x_sE]
    rw [enc, encs_map, encs_map, encs_map, List.map_take, List.map_drop, hrw]
    simp
  · have q : rs[w.toNat]? = some r := by
      rw [atI_in w0 (by omega)] at hpick
      exact hpick
    unfold szs
    rw [List.getElem?_map, q]
    simp only [Option.map_some, Option.some.injEq, Prod.mk.injEq, List.length_take, List.length_drop, dsl]
    omega
  · simp only [dep]
    have a := deps_le (ds.take r.ns.length) fun d hd => (hds d (List.mem_of_mem_take hd)).2
    have b := deps_le (ds.drop r.ns.length) fun d hd => (hds d (List.mem_of_mem_drop hd)).2
    omega
end DL

set_option Elab.async false
set_option linter.all false
set_option maxRecDepth 100000
set_option maxHeartbeats 1000000
namespace DL
open PySem L2
variable {B : Sto}
theorem pKeyApp {xs : List Str} {x : Str} {a b : Den} {ε : Env} (hl : xs.length ≤ 100) (ha : PurE B a ε (tstr xs)) (hb : PurE B b ε (.str x)) : PurE B (dBin oAdd a (dTup (dCons b dNil))) ε (tstr (xs ++ [x])) := pO ha (pT (pK hb pN)) fun S => by
  unfold tstr oAdd
  simp only [List.length_map, List.length_cons, List.length_nil]
  rw [if_pos (Nat.le_trans (show xs.length + (0 + 1) ≤ 1000 by omega) (by decide))]
  simp
theorem pKn0 {ns os hs : List Str} {a : Den} {ε : Env} (ha : PurE B a ε (encK ns os hs)) : PurE B (dBin oGet a (dC (.int 0))) ε (tstr ns) := pO ha pC fun S => by unfold encK; simp
theorem pKn1 {ns os hs : List Str} {a : Den} {ε : Env} (ha : PurE B a ε (encK ns os hs)) : PurE B (dBin oGet a (dC (.int 1))) ε (tstr os) := pO ha pC fun S => by unfold encK; simp
theorem pKn2 {ns os hs : List Str} {a : Den} {ε : Env} (ha : PurE B a ε (encK ns os hs)) : PurE B (dBin oGet a (dC (.int 2))) ε (tstr hs) := pO ha pC fun S => by unfold encK; simp
theorem KnOk.nam {ns os hs : List Str} {x : Str} (k : KnOk ns os hs) (h : kd x = 1) (hl : ns.length < 100) : KnOk (ns ++ [x]) os hs :=
  ⟨fun y hy => by rcases List.mem_append.mp hy with q | q; · exact k.n y q
                  · rw [List.mem_singleton.mp q]; exact h, k.o, k.h, by simp; omega, k.lo, k.lh⟩
theorem KnOk.ow {ns os hs : List Str} {x : Str} (k : KnOk ns os hs) (h : kd x = 2) (hl : os.length < 100) : KnOk ns (os ++ [x]) hs :=
  ⟨k.n, fun y hy => by rcases List.mem_append.mp hy with q | q; · exact k.o y q
                       · rw [List.mem_singleton.mp q]; exact h, k.h, k.ln, by simp; omega, k.lh⟩
structure RsOk (rs : List Rule) : Prop where
  ok : okRs rs
  dep : ∀ r ∈ rs, dep r.b ≤ 10
  len : ∀ r ∈ rs, r.ns.length ≤ 100 ∧ r.hs.length ≤ 100
theorem deed_sem (ns : List Int) (hl : ns.length ≤ 63) {rs : List Rule} (R : RsOk rs) : ∀ (deep n : Nat) (t : Int) (nm os hs : List Str), 2 * deep + 5 ≤ n → 0 ≤ t → KnOk nm os hs → nm.length + deep ≤ 100 → os.length + deep ≤ 100 →
    ∃ d, Pur (csem n .f__law_deed [scr ns, .int t, .int deep, encK nm os hs, encRs rs]) (enc d) ∧ okD (szs rs) (nm ++ os ++ hs) d ∧ dep d ≤ deep := by
  intro deep
  induction deep with
  | zero =>
    intro n t nm os hs hn ht k _ _
    obtain ⟨n, rfl⟩ : ∃ j, n = j + 5 := ⟨n - 5, by omega⟩
    obtain ⟨d, hd, ho, hp⟩ := leaf_sem n ns (t + 1) (szs rs) (by omega) hl k
    refine ⟨d, ?_, ho, by omega⟩
    rw [cs_f__law_deed]
    refine pur_run ?_
    unfold b_f__law_deed
    refine pLet (pDrawn hl ht (by decide) pV pV pC) (fun S => rfl) (pTake (pOrB (pEqI pV pC rfl) (fun _ => pLtI pV pC rfl) (by simp)) (pRet (pCall (pK pV (pK (pAdd pV pC) (pK pV pN))) hd)))
  | succ deep ih =>
    intro n t nm os hs hn ht k hnm hos
    obtain ⟨n, rfl⟩ : ∃ j, n = j + 5 := ⟨n - 5, by omega⟩
    have sub : ∀ (t' : Int) (nm' os' : List Str), 0 ≤ t' → KnOk nm' os' hs → nm'.length + deep ≤ 100 → os'.length + deep ≤ 100 → ∃ d, Pur (csem (n + 4) .f__law_deed [scr ns, .int t', .int deep, encK nm' os' hs, encRs rs]) (enc d) ∧ okD (szs rs) (nm' ++ os' ++ hs) d ∧ dep d ≤ deep :=
      fun t' nm' os' h1 h2 h3 h4 => ih (n + 4) t' nm' os' hs (by omega) h1 h2 h3 h4
    have w0 := drw_lo ns t (m := 15) (by decide)
    have w1 := drw_hi ns t (m := 15) (by decide)
    generalize hw : drw ns t 15 = w at w0 w1
    have hd1 : (deep : Int) + 1 - 1 = deep := by omega
    have hcast : ((deep + 1 : Nat) : Int) = (deep : Int) + 1 := by omega
    rw [hcast]
    -- the beginning
    have beg : ∀ {d : D} {rest : SDen}, PurS [] rest [some (scr ns), some (D.int t), some (D.int ((deep : Int) + 1)), some (encK nm os hs), some (encRs rs), some (.int w), none, none, none, none, none] (.rt d) →
        PurS [] (sSeq (sAsg (dCall 3 (csem (n + 4) .f__law_drawn) (dCons (dVar 0) (dCons (dVar 1) (dCons (dC (.int 15)) dNil)))) (gN 5)) rest) [some (scr ns), some (D.int t), some (D.int ((deep : Int) + 1)), some (encK nm os hs), some (encRs rs), none, none, none, none, none, none] (.rt d) := fun h => by
      refine pLet (pDrawn hl ht (by decide) pV pV pC) (fun S => rfl) ?_
      rw [hw]
      exact h
    by_cases c1 : w < 2
    · obtain ⟨d, hd, ho, hp⟩ := leaf_sem n ns (t + 1) (szs rs) (by omega) hl k
      refine ⟨d, ?_, ho, by omega⟩
      rw [cs_f__law_deed]
      refine pur_run ?_
      unfold b_f__law_deed
      exact beg (pTake (pOrB (pEqI pV pC rfl) (fun _ => pLtI pV pC rfl) (by simp [c1])) (pRet (pCall (pK pV (pK (pAdd pV pC) (pK pV pN))) hd)))
    have s1 : PurB [] (bOr (dTest (dBin oEq (dVar 2) (dC (.int 0)))) (dTest (dBin oLt (dVar 5) (dC (.int 2))))) [some (scr ns), some (D.int t), some (D.int ((deep : Int) + 1)), some (encK nm os hs), some (encRs rs), some (.int w), none, none, none, none, none] false :=
      pOrB (pEqI pV pC rfl) (fun _ => pLtI pV pC rfl) (by simp [c1]; omega)
    by_cases c2 : w < 4 ∧ rs ≠ []
    · obtain ⟨d, hd, ho, hp⟩ := call_sem n deep ns t (kn := encK nm os hs) (K := nm ++ os ++ hs) ht hl c2.2 R.len fun t' ht' => ih (n + 3) t' nm os hs (by omega) ht' k (by omega) (by omega)
      refine ⟨d, ?_, ho, hp⟩
      rw [cs_f__law_deed]
      refine pur_run ?_
      unfold b_f__law_deed
      exact beg (pSkip s1 (pTake (pAndB (pLtI pV pC rfl) (fun _ => pB (pNe_rules R.ok R.dep pV)) (by simp [c2.1, c2.2])) (pRet (pCall (pK pV (pK pV (pK pV (pK pV (pK pV pN))))) hd))))
    have s2 : PurB [] (bAnd (dTest (dBin oLt (dVar 5) (dC (.int 4)))) (dTest (dBin oNe (dVar 4) (dTup dNil)))) [some (scr ns), some (D.int t), some (D.int ((deep : Int) + 1)), some (encK nm os hs), some (encRs rs), some (.int w), none, none, none, none, none] false :=
      pAndB (pLtI pV pC rfl) (fun _ => pB (pNe_rules R.ok R.dep pV)) (by
        by_cases q2 : rs = []
        · simp [q2]
        · have q : ¬ w < 4 := fun z => c2 ⟨z, q2⟩
          simp [q])
    obtain ⟨d1, hd1s, ho1, hp1⟩ := sub (t * 3 + 7) nm os (by omega) k (by omega) (by omega)
    have beg2 : ∀ {d : D} {rest : SDen}, PurS [] rest [some (scr ns), some (D.int t), some (D.int ((deep : Int) + 1)), some (encK nm os hs), some (encRs rs), some (.int w), some (enc d1), none, none, none, none] (.rt d) →
        PurS [] (sSeq (sAsg (dCall 5 (csem (n + 4) .f__law_deed) (dCons (dVar 0) (dCons (dBin oAdd (dBin oMul (dVar 1) (dC (.int 3))) (dC (.int 7))) (dCons (dBin oSub (dVar 2) (dC (.int 1))) (dCons (dVar 3) (dCons (dVar 4) dNil)))))) (gN 6)) rest)
          [some (scr ns), some (D.int t), some (D.int ((deep : Int) + 1)), some (encK nm os hs), some (encRs rs), some (.int w), none, none, none, none, none] (.rt d) := fun h => by
      refine pLet (pCall (pK pV (pK (pAdd (pMulR pV pC) pC) (pK (pSub pV pC) (pK pV (pK pV pN))))) ?_) (fun S => rfl) h
      rw [hd1]
      exact hd1s
    have t3 : (0 : Int) ≤ t + 3 := by omega
    by_cases c3 : w < 6
    · have hne : shv os ≠ [] := by simp [shv, abcd]
      obtain ⟨v, hv, hp⟩ := drw_pick ns (t + 3) hne
      have hm : 0 < ((shv os).length : Int) := by have := List.length_pos_iff.mpr hne; omega
      refine ⟨.wr v d1, ?_, ⟨shv_ok k hv, ho1⟩, by simp only [dep]; omega⟩
      rw [cs_f__law_deed]
      refine pur_run ?_
      unfold b_f__law_deed
      refine beg (pSkip s1 (pSkip s2 (beg2 (pTake (pLtI pV pC (by simp [c3])) (pLet (pShv k.lo (pKn1 pV)) (fun _ => rfl) (pRet (pT (pK pC (pK ?_ (pK pV pN))))))))))
      exact pGetT pV (pDrawn hl t3 hm pV (pAdd pV pC) (pLenT pV)) hp
    by_cases c4 : w = 6
    · refine ⟨.say d1, ?_, ho1, by simp only [dep]; omega⟩
      rw [cs_f__law_deed]
      refine pur_run ?_
      unfold b_f__law_deed
      exact beg (pSkip s1 (pSkip s2 (beg2 (pSkip (pLtI pV pC (by simp [c3])) (pTake (pEqI pV pC (by simp [c4])) (pRet (pT (pK pC (pK pV pN)))))))))
    by_cases c5 : w = 7
    · obtain ⟨v, hv, hp⟩ := drw_pick ns (t + 3) (l := (["x", "y", "x1"] : List Str)) (by simp)
      have hk : kd v = 1 := by
        have : ∀ y ∈ (["x", "y", "x1"] : List Str), kd y = 1 := by decide +kernel
        exact this v hv
      obtain ⟨d2, hd2, ho2, hp2⟩ := sub (t * 3 + 23) (nm ++ [v]) os (by omega) (k.nam hk (by omega)) (by simp; omega) (by omega)
      refine ⟨.lt v d1 d2, ?_, ⟨hk, ho1, okD_mono (fun _ _ h => h) d2 (fun y hy => ?_) ho2⟩, by simp only [dep]; omega⟩
      · rw [cs_f__law_deed]
        refine pur_run ?_
        unfold b_f__law_deed
        refine beg (pSkip s1 (pSkip s2 (beg2 (pSkip (pLtI pV pC (by simp [c3])) (pSkip (pEqI pV pC (by simp [c4])) (pTake (pEqI pV pC (by simp [c5])) (pLet (pPick (pK pC (pK pC (pK pC pN))) (pDrawn hl t3 (by decide) pV (pAdd pV pC) pC) (atI_map (f := D.str) hp)) (fun _ => rfl) (pRet (pT (pK pC (pK pV (pK pV (pK ?_ pN)))))))))))))
        refine pCall (pK pV (pK (pAdd (pMulR pV pC) pC) (pK (pSub pV pC) (pK ?_ (pK pV pN))))) (d := enc d2) (ds := [scr ns, .int (t * 3 + 23), .int ((deep : Int) + 1 - 1), encK (nm ++ [v]) os hs, encRs rs]) (by rw [hd1]; exact hd2)
        refine pO (pT (pK (pKeyApp k.ln (pKn0 pV) pV) pN)) (pSl0 pV pC) fun S => ?_
        rfl
      · simp only [List.mem_append, List.mem_cons, List.not_mem_nil, or_false] at hy ⊢
        rcases hy with ((q | q) | q) | q
        · exact .inr (.inl (.inl q))
        · exact .inl q
        · exact .inr (.inl (.inr q))
        · exact .inr (.inr q)
    by_cases c6 : w = 8
    · obtain ⟨v, hv, hp⟩ := drw_pick ns (t + 3) (l := (["p", "q"] : List Str)) (by simp)
      have hk : kd v = 2 := by
        have : ∀ y ∈ (["p", "q"] : List Str), kd y = 2 := by decide +kernel
        exact this v hv
      obtain ⟨d2, hd2, ho2, hp2⟩ := sub (t * 3 + 23) nm (os ++ [v]) (by omega) (k.ow hk (by omega)) (by omega) (by simp; omega)
      refine ⟨.own v d1 d2, ?_, ⟨hk, ho1, okD_mono (fun _ _ h => h) d2 (fun y hy => ?_) ho2⟩, by simp only [dep]; omega⟩
      · rw [cs_f__law_deed]
        refine pur_run ?_
        unfold b_f__law_deed
        refine beg (pSkip s1 (pSkip s2 (beg2 (pSkip (pLtI pV pC (by simp [c3])) (pSkip (pEqI pV pC (by simp [c4])) (pSkip (pEqI pV pC (by simp [c5])) (pTake (pEqI pV pC (by simp [c6])) (pLet (pPick (pK pC (pK pC pN)) (pDrawn hl t3 (by decide) pV (pAdd pV pC) pC) (atI_map (f := D.str) hp)) (fun _ => rfl) (pLet (pT (pK (pKn0 pV) (pK (pKeyApp k.lo (pKn1 pV) pV) (pK (pKn2 pV) pN)))) (fun _ => rfl) (pRet (pT (pK pC (pK pV (pK pV (pK ?_ pN)))))))))))))))
        exact pCall (pK pV (pK (pAdd (pMulR pV pC) pC) (pK (pSub pV pC) (pK pV (pK pV pN))))) (by rw [hd1]; exact hd2)
      · simp only [List.mem_append, List.mem_cons, List.not_mem_nil, or_false] at hy ⊢
        rcases hy with (q | (q | q)) | q
        · exact .inr (.inl (.inl q))
        · exact .inr (.inl (.inr q))
        · exact .inl q
        · exact .inr (.inr q)
    obtain ⟨d2, hd2, ho2, hp2⟩ := sub (t * 3 + 41) nm os (by omega) k (by omega) (by omega)
    have beg3 : ∀ {d : D} {rest : SDen}, PurS [] rest [some (scr ns), some (D.int t), some (D.int ((deep : Int) + 1)), some (encK nm os hs), some (encRs rs), some (.int w), some (enc d1), none, none, none, some (enc d2)] (.rt d) →
        PurS [] (sSeq (sAsg (dCall 5 (csem (n + 4) .f__law_deed) (dCons (dVar 0) (dCons (dBin oAdd (dBin oMul (dVar 1) (dC (.int 3))) (dC (.int 41))) (dCons (dBin oSub (dVar 2) (dC (.int 1))) (dCons (dVar 3) (dCons (dVar 4) dNil)))))) (gN 10)) rest)
          [some (scr ns), some (D.int t), some (D.int ((deep : Int) + 1)), some (encK nm os hs), some (encRs rs), some (.int w), some (enc d1), none, none, none, none] (.rt d) := fun h => by
      refine pLet (pCall (pK pV (pK (pAdd (pMulR pV pC) pC) (pK (pSub pV pC) (pK pV (pK pV pN))))) ?_) (fun S => rfl) h
      rw [hd1]
      exact hd2
    by_cases c7 : w = 9
    · obtain ⟨d3, hd3, ho3, hp3⟩ := sub (t * 3 + 61) nm os (by omega) k (by omega) (by omega)
      refine ⟨.iff d1 d2 d3, ?_, ⟨ho1, ho2, ho3⟩, by simp only [dep]; omega⟩
      rw [cs_f__law_deed]
      refine pur_run ?_
      unfold b_f__law_deed
      refine beg (pSkip s1 (pSkip s2 (beg2 (pSkip (pLtI pV pC (by simp [c3])) (pSkip (pEqI pV pC (by simp [c4])) (pSkip (pEqI pV pC (by simp [c5])) (pSkip (pEqI pV pC (by simp [c6])) (beg3 (pTake (pEqI pV pC (by simp [c7])) (pRet (pT (pK pC (pK pV (pK pV (pK ?_ pN)))))))))))))))
      exact pCall (pK pV (pK (pAdd (pMulR pV pC) pC) (pK (pSub pV pC) (pK pV (pK pV pN))))) (by rw [hd1]; exact hd3)
    obtain ⟨tw, htw⟩ : ∃ tw : Two, atI ([.tup [.str "then"], .tup [.str "add"], .tup [.str "less"], .tup [.str "loop"], .tup [.str "then"]] : List D) (w - 10) = some (.tup [.str tw.w]) := by
      have : w = 10 ∨ w = 11 ∨ w = 12 ∨ w = 13 ∨ w = 14 := by omega
      rcases this with rfl | rfl | rfl | rfl | rfl
      · exact ⟨.thn, rfl⟩
      · exact ⟨.add, rfl⟩
      · exact ⟨.les, rfl⟩
      · exact ⟨.lop, rfl⟩
      · exact ⟨.thn, rfl⟩
    refine ⟨.two tw d1 d2, ?_, ⟨ho1, ho2⟩, by simp only [dep]; omega⟩
    rw [cs_f__law_deed]
    refine pur_run ?_
    unfold b_f__law_deed
    refine beg (pSkip s1 (pSkip s2 (beg2 (pSkip (pLtI pV pC (by simp [c3])) (pSkip (pEqI pV pC (by simp [c4])) (pSkip (pEqI pV pC (by simp [c5])) (pSkip (pEqI pV pC (by simp [c6])) (beg3 (pSkip (pEqI pV pC (by simp [c7])) (pRet ?_))))))))))
    refine pO (pPick (pK (pT (pK pC pN)) (pK (pT (pK pC pN)) (pK (pT (pK pC pN)) (pK (pT (pK pC pN)) (pK (pT (pK pC pN)) pN))))) (pSub pV pC) htw) (pT (pK pV (pK pV pN))) fun S => ?_
    rfl
end DL

set_option Elab.async false
set_option linter.all false
set_option maxRecDepth 100000
set_option maxHeartbeats 1000000
namespace DL
open PySem L2
variable {B : Sto}
/-- a new list -/
def PurL (B : Sto) (a : Den) (ε : Env) (ds : List D) : Prop := ∀ S, B <+: S → ∃ E, a ε S = .ok (.ref (S ++ E).length) (S ++ E ++ [.lst ds])
/-- what is walked -/
def PurI (B : Sto) (it : IDen) (ε : Env) (xs : List D) : Prop := ∀ S, B <+: S → ∃ E src, it ε S = .ok src (S ++ E) ∧ ∀ S', S ++ E <+: S' → src S' = some xs
section
variable {it : IDen} {g : GDen} {c : DenB} {e a b : Den} {vs : List Nat} {ε : Env} {xs ys ds : List D} {p : D → Bool} {h : D → D} {src : Src} {m : Nat}
theorem lc_pure (hsrc : ∀ S', B <+: S' → src S' = some xs) (hx : ∀ x ∈ xs, ∃ ε', (∀ S, g x (wipeE ε vs) S = some ε') ∧ PurB B c ε' (p x) ∧ (p x = true → PurE B e ε' (h x))) (hl : xs.length ≤ 1000) :
    ∀ (k i : Nat) (acc : List D) (S : Sto), i + k = xs.length → acc.length ≤ i → B <+: S → ∃ E, lcI src g c e vs ε (k + 1) i acc S = .ok (acc ++ ((xs.drop i).filter p).map h) (S ++ E)
  | 0, i, acc, S, hk, ha, hS => by
    refine ⟨[], ?_⟩
    unfold lcI
    have e1 : xs[i]? = none := List.getElem?_eq_none (by omega)
    have e2 : xs.drop i = [] := List.drop_eq_nil_of_le (by omega)
    simp only [hsrc S hS, e1, e2]
    simp
  | k + 1, i, acc, S, hk, ha, hS => by
    have hi : i < xs.length := by omega
    have e1 : xs[i]? = some xs[i] := List.getElem?_eq_getElem hi
    obtain ⟨ε', hg, hc, he⟩ := hx xs[i] (List.getElem_mem hi)
    obtain ⟨E1, e2⟩ := hc S hS
    have e3 : xs.drop i = xs[i] :: xs.drop (i + 1) := List.drop_eq_getElem_cons hi
    unfold lcI
    simp only [hsrc S hS, e1, hg, e2, e3, noX, x_bind]
    by_cases hp : p xs[i] = true
    · obtain ⟨E2, e4⟩ := he hp (S ++ E1) (pre_app hS)
      obtain ⟨E3, e5⟩ := lc_pure hsrc hx hl k (i + 1) (acc ++ [h xs[i]]) (S ++ E1 ++ E2) (by omega) (by simp; omega) (pre_app (pre_app hS))
      refine ⟨E1 ++ E2 ++ E3, ?_⟩
      rw [if_pos hp, e4]
      simp only [noX, x_bind]
      rw [if_pos (show acc.length < big from Nat.lt_of_lt_of_le (show acc.length < 1001 by omega) (by decide)), e5, List.filter_cons_of_pos hp]
      simp
    · obtain ⟨E3, e5⟩ := lc_pure hsrc hx hl k (i + 1) acc (S ++ E1) (by omega) (by omega) (pre_app hS)
      refine ⟨E1 ++ E3, ?_⟩
      rw [if_neg hp, e5, List.filter_cons_of_neg hp]
      simp
theorem pLc (hi : PurI B it ε xs) (hx : ∀ x ∈ xs, ∃ ε', (∀ S, g x (wipeE ε vs) S = some ε') ∧ PurB B c ε' (p x) ∧ (p x = true → PurE B e ε' (h x))) (hl : xs.length ≤ 1000) : PurL B (dLc it g c e vs) ε ((xs.filter p).map h) := fun S hS => by
  obtain ⟨E, src, e1, hs⟩ := hi S hS
  have up : ∀ ε', (∀ t, PurB B c ε' t → PurB (S ++ E) c ε' t) ∧ ∀ d, PurE B e ε' d → PurE (S ++ E) e ε' d := fun ε' => ⟨fun t q S' hS' => q S' ((pre_app hS).trans hS'), fun d q S' hS' => q S' ((pre_app hS).trans hS')⟩
  obtain ⟨E2, e2⟩ := lc_pure (B := S ++ E) (p := p) (h := h) hs (fun x m => by
    obtain ⟨ε', a, b, k⟩ := hx x m
    exact ⟨ε', a, (up ε').1 _ b, fun q => (up ε').2 _ (k q)⟩) hl xs.length 0 [] (S ++ E) (by omega) (by simp) (List.prefix_refl _)
  refine ⟨E ++ E2, ?_⟩
  unfold dLc
  rw [e1, x_bind]
  simp only [hs (S ++ E) (List.prefix_refl _), e2, x_bind, lcEnd]
  simp
theorem bYes_pure {ε : Env} : PurB B bYes ε true := fun S _ => ⟨[], by simp [bYes]⟩
/-- [e for x in xs] -/
theorem pLc1 (hi : PurI B it ε xs) (hx : ∀ x ∈ xs, ∃ ε', (∀ S, g x (wipeE ε vs) S = some ε') ∧ PurE B e ε' (h x)) (hl : xs.length ≤ 1000) : PurL B (dLc it g bYes e vs) ε (xs.map h) := by
  have := pLc (p := fun _ => true) (h := h) (c := bYes) hi (fun x m => by
    obtain ⟨ε', a, b⟩ := hx x m
    exact ⟨ε', a, bYes_pure, fun _ => b⟩) hl
  rwa [List.filter_eq_self.mpr (fun _ _ => rfl)] at this
theorem pTupL (ha : PurL B a ε ds) : PurE B (dFn fTuple (dCons a dNil)) ε (.tup ds) := fun S hS => by
  obtain ⟨E, e1⟩ := ha S hS
  refine ⟨E ++ [.lst ds], ?_⟩
  simp only [x_Fn, x_Cons, e1, x_bind, x_Nil]
  rw [fTuple_ref (getLast_app (A := S ++ E) (x := O.lst ds))]
  simp
theorem fall_intD : ∀ ns : List Int, fall intD (ns.map D.int) = some ns
  | [] => rfl
  | i :: r => fall_cons rfl (fall_intD r)
theorem pSumL {ns : List Int} (ha : PurL B a ε (ns.map .int)) : PurE B (dFn fSum (dCons a dNil)) ε (.int ns.sum) := fun S hS => by
  obtain ⟨E, e1⟩ := ha S hS
  refine ⟨E ++ [.lst (ns.map .int)], ?_⟩
  have q : litems (S ++ E ++ [O.lst (ns.map .int)]) (.ref (S ++ E).length) = some (ns.map .int) := by
    unfold litems
    simp only [getLast_app]
  simp only [x_Fn, x_Cons, e1, x_bind, x_Nil, fSum, fLst, q, fall_intD]
  simp
theorem piRange {m : Nat} (hm : m ≤ 1000) (ha : PurE B a ε (.int m)) : PurI B (iRange1 a) ε (nums 0 m) := fun S hS => by
  obtain ⟨E, e1⟩ := ha S hS
  exact ⟨E, _, iRange1_of (okR_of (by omega) (by omega)) e1, fun _ _ => by simp⟩
theorem piTup (ha : PurE B a ε (.tup xs)) : PurI B (iAny a) ε xs := fun S hS => by
  obtain ⟨E, e1⟩ := ha S hS
  exact ⟨E, _, by unfold iAny; rw [e1]; rfl, fun _ _ => rfl⟩
theorem piStr {x : Str} (ha : PurE B a ε (.str x)) : PurI B (iAny a) ε (signs x) := fun S hS => by
  obtain ⟨E, e1⟩ := ha S hS
  exact ⟨E, _, by unfold iAny; rw [e1]; rfl, fun _ _ => rfl⟩
theorem piLst (ha : PurL B a ε xs) : PurI B (iAny a) ε xs := fun S hS => by
  obtain ⟨E, e1⟩ := ha S hS
  have q : ∀ S', S ++ E ++ [O.lst xs] <+: S' → litems S' (.ref (S ++ E).length) = some xs := fun S' ⟨T, hT⟩ => by
    subst hT
    unfold litems
    simp
  refine ⟨E ++ [.lst xs], fun S' => litems S' (.ref (S ++ E).length), ?_, fun S' hS' => q S' (by simpa using hS')⟩
  have q0 := q _ (List.prefix_refl _)
  unfold iAny
  rw [e1, x_bind]
  simp only [q0]
  simp
theorem piZip (ha : PurE B a ε (.tup xs)) (hb : PurE B b ε (.tup ys)) : PurI B (iZipD a b) ε (pairs xs ys) := fun S hS => by
  obtain ⟨E, e1⟩ := ha S hS
  obtain ⟨E2, e2⟩ := hb (S ++ E) (pre_app hS)
  exact ⟨E ++ E2, _, by unfold iZipD; rw [e1, x_bind, e2, x_bind]; simp, fun _ _ => rfl⟩
theorem pLetAt {a : Den} {g : GDen} {w : SDen} {ε : Env} {fl : Fl} (h : ∀ S, B <+: S → ∃ E d ε', a ε S = .ok d (S ++ E) ∧ (∀ S, g d ε S = some ε') ∧ PurS (S ++ E) w ε' fl) : PurS B (sSeq (sAsg a g) w) ε fl := fun S hS => by
  obtain ⟨E, d, ε', e1, hg, hw⟩ := h S hS
  obtain ⟨E2, e2⟩ := hw (S ++ E) (List.prefix_refl _)
  exact ⟨E ++ E2, by simp [e1, hg, e2]⟩
theorem PurE.up {B' : Sto} {d : D} (h : PurE B a ε d) (hB : B <+: B') : PurE B' a ε d := fun S hS => h S (hB.trans hS)
theorem PurR.up {B' : Sto} {f : Sto → R D} {d : D} (h : PurR B f d) (hB : B <+: B') : PurR B' f d := fun S hS => h S (hB.trans hS)
/-- for v in xs: .. -/
theorem for_pure {w : SDen} {e : Nat → Env} (hsrc : ∀ S', B <+: S' → src S' = some xs) (hx : ∀ i x, xs[i]? = some x → ∃ ε1, (∀ S, g x (e i) S = some ε1) ∧ PurS B w ε1 (.nx (e (i + 1)))) :
    ∀ (k i : Nat) (S : Sto), i + k = xs.length → B <+: S → ∃ E, forI src g w (k + 1) i (e i) S = .ok (.nx (e xs.length)) (S ++ E)
  | 0, i, S, hk, hS => by
    refine ⟨[], ?_⟩
    unfold forI
    have e1 : xs[i]? = none := List.getElem?_eq_none (by omega)
    simp only [hsrc S hS, e1]
    obtain rfl : i = xs.length := by omega
    simp
  | k + 1, i, S, hk, hS => by
    have e1 : xs[i]? = some xs[i] := List.getElem?_eq_getElem (by omega)
    obtain ⟨ε1, hg, hw⟩ := hx i _ e1
    obtain ⟨E1, e2⟩ := hw S hS
    obtain ⟨E2, e3⟩ := for_pure hsrc hx k (i + 1) (S ++ E1) (by omega) (pre_app hS)
    refine ⟨E1 ++ E2, ?_⟩
    unfold forI
    simp only [hsrc S hS, e1, hg, e2, e3]
    simp
theorem pFor {w : SDen} {e : Nat → Env} (hi : PurI B it (e 0) xs) (hx : ∀ i x, xs[i]? = some x → ∃ ε1, (∀ S, g x (e i) S = some ε1) ∧ PurS B w ε1 (.nx (e (i + 1)))) : PurS B (sFor it g w) (e 0) (.nx (e xs.length)) := fun S hS => by
  obtain ⟨E, src, e1, hs⟩ := hi S hS
  obtain ⟨E2, e2⟩ := for_pure (B := S ++ E) hs (fun i x hx' => by
    obtain ⟨ε1, a, b⟩ := hx i x hx'
    exact ⟨ε1, a, fun S' hS' => b S' ((pre_app hS).trans hS')⟩) xs.length 0 (S ++ E) (by omega) (List.prefix_refl _)
  refine ⟨E ++ E2, ?_⟩
  unfold sFor
  rw [e1, x_sE]
  simp only [hs (S ++ E) (List.prefix_refl _), e2]
  simp
end
/-! ### store, what is asked -/
theorem store_sem (n : Nat) (ns : List Int) (t : Int) (ht : 0 ≤ t) (hl : ns.length ≤ 63) : Pur (csem (n + 4) .f__law_store [scr ns, .int t]) (.tup ((List.range 4).map fun (k : Nat) => .int (drw ns (t + (k : Int)) 6))) := by
  rw [cs_f__law_store]
  refine pur_run ?_
  unfold b_f__law_store
  refine pRet (pTupL ?_)
  have hi : PurI [] (iRange1 (dC (.int 4))) (List.map some [scr ns, D.int t] ++ List.replicate (3 - 2) none) (nums 0 4) := piRange (m := 4) (by decide) pC
  have := pLc1 (g := gN 2) (vs := [2]) (e := dCall 3 (csem (n + 3) .f__law_drawn) (dCons (dVar 0) (dCons (dBin oAdd (dVar 1) (dVar 2)) (dCons (dC (.int 6)) dNil)))) (h := fun d => match d with | .int k => .int (drw ns (t + k) 6) | d => d) hi (fun x hx => ?_) (by decide)
  · have e : List.map (fun d => match d with | D.int k => D.int (drw ns (t + k) 6) | d => d) (nums 0 4) = (List.range 4).map fun (k : Nat) => D.int (drw ns (t + (k : Int)) 6) := by
      simp [nums, Function.comp_def]
    rw [e] at this
    exact this
  · obtain ⟨k, _, rfl⟩ := List.mem_map.mp (show x ∈ List.map (fun (k : Nat) => D.int (0 + (k : Int))) (List.range 4) from hx)
    refine ⟨_, fun S => rfl, ?_⟩
    have hk : (0 : Int) ≤ t + (0 + (k : Int)) := by omega
    exact pDrawn hl hk (by decide) pV (pAdd pV (pV (d := .int (0 + (k : Int))))) pC
theorem asked_sem (n : Nat) (ns : List Int) (t : Int) (ht : 0 ≤ t) (hl : ns.length ≤ 63) : ∀ S, ∃ E, csem (n + 4) .f__law_asked [scr ns, .int t] S = .ok (.ref (S ++ E).length) (S ++ E ++ [.lst ((List.range (drw ns t 4).toNat).map fun (k : Nat) => .int (drw ns (t + 1 + (k : Int)) 9))]) := fun S => by
  rw [cs_f__law_asked, runFn_fin (np := 2) rfl]
  unfold b_f__law_asked
  have h0 := drw_lo ns t (m := 4) (by decide)
  have h1 := drw_hi ns t (m := 4) (by decide)
  have hm : ((drw ns t 4).toNat : Int) = drw ns t 4 := by omega
  have hi : PurI [] (iRange1 (dCall 3 (csem (n + 3) .f__law_drawn) (dCons (dVar 0) (dCons (dVar 1) (dCons (dC (.int 4)) dNil))))) (List.map some [scr ns, D.int t] ++ List.replicate (3 - 2) none) (nums 0 (drw ns t 4).toNat) := piRange (by omega) (by
    rw [hm]
    exact pDrawn hl ht (by decide) pV pV pC)
  have := pLc1 (g := gN 2) (vs := [2]) (e := dCall 3 (csem (n + 3) .f__law_drawn) (dCons (dVar 0) (dCons (dBin oAdd (dBin oAdd (dVar 1) (dC (.int 1))) (dVar 2)) (dCons (dC (.int 9)) dNil)))) (h := fun d => match d with | .int k => .int (drw ns (t + 1 + k) 9) | d => d) hi (fun x hx => ?_) (by simp [nums]; omega)
  · have e : List.map (fun d => match d with | D.int k => D.int (drw ns (t + 1 + k) 9) | d => d) (nums 0 (drw ns t 4).toNat) = (List.range (drw ns t 4).toNat).map fun (k : Nat) => D.int (drw ns (t + 1 + (k : Int)) 9) := by
      simp [nums, Function.comp_def]
    rw [e] at this
    obtain ⟨E, e1⟩ := this S List.nil_prefix
    refine ⟨E, ?_⟩
    simp only [x_Ret, e1, x_sE, x_fin]
  · obtain ⟨k, _, rfl⟩ := List.mem_map.mp (show x ∈ List.map (fun (k : Nat) => D.int (0 + (k : Int))) (List.range _) from hx)
    refine ⟨_, fun S => rfl, ?_⟩
    have hk : (0 : Int) ≤ t + 1 + (0 + (k : Int)) := by omega
    exact pDrawn hl hk (by decide) pV (pAdd (pAdd pV pC) (pV (d := .int (0 + (k : Int))))) pC
end DL

set_option Elab.async false
set_option linter.all false
set_option maxRecDepth 100000
set_option maxHeartbeats 1000000
namespace DL
open PySem L2
variable {B : Sto}
theorem szs_take (rs : List Rule) (i : Nat) : szs (rs.take i) = (szs rs).take i := by unfold szs; rw [List.map_take]
theorem okRs_snoc {rs : List Rule} {r : Rule} (h : okRs rs) (hr : okRl (szs rs) r) : okRs (rs ++ [r]) := fun i r' hi => by
  by_cases hl : i < rs.length
  · rw [List.getElem?_append_left hl] at hi
    rw [List.take_append_of_le_length (by omega)]
    exact h i r' hi
  · have e : i = rs.length := by
      have := (List.getElem?_eq_some_iff.mp hi).1
      simp at this
      omega
    subst e
    rw [List.getElem?_append_right (Nat.le_refl _), Nat.sub_self] at hi
    cases hi
    rw [List.take_left]
    exact hr
/-- what _law_rules makes -/
structure RsLaw (rs : List Rule) : Prop where
  r : RsOk rs
  len : rs.length ≤ 2
  dep : ∀ r ∈ rs, dep r.b ≤ 2
  sz : ∀ r ∈ rs, r.ns.length ≤ 2 ∧ r.hs.length ≤ 2
theorem kn_nil : KnOk [] [] [] := ⟨by simp, by simp, by simp, by simp, by simp, by simp⟩
theorem tstr_get {xss : List (List Str)} {i : Int} {xs : List Str} (h : atI xss i = some xs) : atI (xss.map tstr) i = some (tstr xs) := atI_map h
theorem rules_sem (n : Nat) (ns : List Int) (t : Int) (ht : 0 ≤ t) (hl : ns.length ≤ 63) : ∃ rs, Pur (csem (n + 10) .f__law_rules [scr ns, .int t]) (encRs rs) ∧ RsLaw rs := by
  have h0 := drw_lo ns t (m := 3) (by decide)
  have h1 := drw_hi ns t (m := 3) (by decide)
  have hm : ((drw ns t 3).toNat : Int) = drw ns t 3 := by omega
  have hm2 : (drw ns t 3).toNat ≤ 2 := by omega
  generalize hM : (drw ns t 3).toNat = m at hm hm2
  rw [cs_f__law_rules]
  let body : SDen := (sSeq (sAsg (dBin oGet (dLst (dCons (dTup dNil) (dCons (dTup (dCons (dC (.str "x")) dNil)) (dCons (dTup (dCons (dC (.str "y")) (dCons (dC (.str "x")) dNil))) dNil)))) (dCall 3 (csem (n + 9) .f__law_drawn) (dCons (dVar 0) (dCons (dBin oAdd (dBin oAdd (dVar 1) (dC (.int 1))) (dBin oMul (dC (.int 5)) (dVar 3))) (dCons (dC (.int 3)) dNil))))) (gN 4))
    (sSeq (sAsg (dBin oGet (dLst (dCons (dTup dNil) (dCons (dTup (dCons (dC (.str "f")) dNil)) (dCons (dTup (dCons (dC (.str "f")) (dCons (dC (.str "g1")) dNil))) dNil)))) (dCall 3 (csem (n + 9) .f__law_drawn) (dCons (dVar 0) (dCons (dBin oAdd (dBin oAdd (dVar 1) (dC (.int 2))) (dBin oMul (dC (.int 5)) (dVar 3))) (dCons (dC (.int 3)) dNil))))) (gN 5))
    (sSeq (sAsg (dCall 5 (csem (n + 9) .f__law_deed) (dCons (dVar 0) (dCons (dBin oAdd (dBin oAdd (dVar 1) (dC (.int 20))) (dBin oMul (dC (.int 7)) (dVar 3))) (dCons (dC (.int 2)) (dCons (dTup (dCons (dVar 4) (dCons (dTup dNil) (dCons (dVar 5) dNil)))) (dCons (dVar 2) dNil)))))) (gN 6))
    (sAsg (dBin oAdd (dVar 2) (dTup (dCons (dTup (dCons (dVar 4) (dCons (dVar 5) (dCons (dVar 6) dNil)))) dNil))) (gN 2)))))
  have loop : ∀ (c k : Nat) (rs : List Rule) (v3 v4 v5 v6 : Option D), k + c = m → rs.length = k → RsLaw rs → ∃ rs' w3 w4 w5 w6, RsLaw rs' ∧ ∀ S, ∃ E, forI (fun _ => some (nums 0 m)) (gN 3) body (c + 1) k [some (scr ns), some (.int t), some (encRs rs), v3, v4, v5, v6] S = .ok (.nx [some (scr ns), some (.int t), some (encRs rs'), w3, w4, w5, w6]) (S ++ E) := by
    intro c
    induction c with
    | zero =>
      intro k rs v3 v4 v5 v6 hk hlen hrs
      refine ⟨rs, v3, v4, v5, v6, hrs, fun S => ⟨[], ?_⟩⟩
      unfold forI
      simp only [nums_get, if_neg (show ¬ k < m by omega)]
      simp
    | succ c ih =>
      intro k rs v3 v4 v5 v6 hk hlen hrs
      obtain ⟨nm, hnm, hnp⟩ := drw_pick ns (t + 1 + 5 * (k : Int)) (l := ([[], ["x"], ["y", "x"]] : List (List Str))) (by simp)
      obtain ⟨hd, hhd, hhp⟩ := drw_pick ns (t + 2 + 5 * (k : Int)) (l := ([[], ["f"], ["f", "g1"]] : List (List Str))) (by simp)
      have hn1 : ∀ l ∈ ([[], ["x"], ["y", "x"]] : List (List Str)), (∀ x ∈ l, kd x = 1) ∧ l.Nodup ∧ l.length ≤ 2 := by decide +kernel
      have hh1 : ∀ l ∈ ([[], ["f"], ["f", "g1"]] : List (List Str)), (∀ x ∈ l, kd x = 3) ∧ l.Nodup ∧ l.length ≤ 2 := by decide +kernel
      obtain ⟨a1, a2, a3⟩ := hn1 nm hnm
      obtain ⟨b1, b2, b3⟩ := hh1 hd hhd
      have kn : KnOk nm [] hd := ⟨a1, by simp, b1, by omega, by simp, by omega⟩
      obtain ⟨d, hds, hdo, hdd⟩ := deed_sem ns hl hrs.r 2 (n + 9) (t + 20 + 7 * (k : Int)) nm [] hd (by omega) (by omega) kn (by omega) (by simp)
      have okr : okRl (szs rs) ⟨nm, hd, d⟩ := ⟨a1, b1, a2, b2, by simpa using hdo⟩
      have hrs' : RsLaw (rs ++ [⟨nm, hd, d⟩]) := by
        refine ⟨⟨okRs_snoc hrs.r.ok okr, fun r hr => ?_, fun r hr => ?_⟩, by simp; omega, fun r hr => ?_, fun r hr => ?_⟩
        all_goals rcases List.mem_append.mp hr with q | q
        · exact hrs.r.dep r q
        · rw [List.mem_singleton.mp q]; exact Nat.le_trans hdd (by decide)
        · exact hrs.r.len r q
        · rw [List.mem_singleton.mp q]; exact ⟨by show nm.length ≤ 100; omega, by show hd.length ≤ 100; omega⟩
        · exact hrs.dep r q
        · rw [List.mem_singleton.mp q]; exact hdd
        · exact hrs.sz r q
        · rw [List.mem_singleton.mp q]; exact ⟨a3, b3⟩
      obtain ⟨rs', w3, w4, w5, w6, hr', lp⟩ := ih (k + 1) (rs ++ [⟨nm, hd, d⟩]) (some (.int k)) (some (tstr nm)) (some (tstr hd)) (some (enc d)) (by omega) (by simp; omega) hrs'
      refine ⟨rs', w3, w4, w5, w6, hr', fun S => ?_⟩
      have t1 : (0 : Int) ≤ t + 1 + 5 * (k : Int) := by omega
      have t2 : (0 : Int) ≤ t + 2 + 5 * (k : Int) := by omega
      have bs : PurS [] body [some (scr ns), some (.int t), some (encRs rs), some (.int k), v4, v5, v6] (.nx [some (scr ns), some (.int t), some (encRs (rs ++ [⟨nm, hd, d⟩])), some (.int k), some (tstr nm), some (tstr hd), some (enc d)]) := by
        refine pLet (pPick (pK (pT pN) (pK (pT (pK pC pN)) (pK (pT (pK pC (pK pC pN))) pN))) (pDrawn hl t1 (by decide) pV (pAdd (pAdd pV pC) (pMulL pC pV)) pC) (tstr_get hnp)) (fun _ => rfl) ?_
        refine pLet (pPick (pK (pT pN) (pK (pT (pK pC pN)) (pK (pT (pK pC (pK pC pN))) pN))) (pDrawn hl t2 (by decide) pV (pAdd (pAdd pV pC) (pMulL pC pV)) pC) (tstr_get hhp)) (fun _ => rfl) ?_
        refine pLet (pCall (pK pV (pK (pAdd (pAdd pV pC) (pMulL pC pV)) (pK pC (pK (pT (pK pV (pK (pT pN) (pK pV pN)))) (pK pV pN))))) hds) (fun _ => rfl) ?_
        refine pAsg (pO pV (pT (pK (pT (pK pV (pK pV (pK pV pN)))) pN)) fun S => ?_) (fun _ => rfl)
        unfold encRs oAdd
        simp only [List.length_map, List.length_cons, List.length_nil]
        rw [if_pos (Nat.le_trans (show rs.length + (0 + 1) ≤ 1000 by omega) (by decide)), List.map_append]
        rfl
      obtain ⟨E1, e1⟩ := bs S List.nil_prefix
      obtain ⟨E2, e2⟩ := lp (S ++ E1)
      refine ⟨E1 ++ E2, ?_⟩
      unfold forI
      simp only [nums_get, if_pos (show k < m by omega)]
      show (match body [some (scr ns), some (.int t), some (encRs rs), some (.int k), v4, v5, v6] S with
        | .ok (.nx ε') S' => forI (fun _ => some (nums 0 m)) (gN 3) body (c + 1) (k + 1) ε' S'
        | .ok (.ct ε') S' => forI (fun _ => some (nums 0 m)) (gN 3) body (c + 1) (k + 1) ε' S'
        | .ok (.bk ε') S' => .ok (.nx ε') S'
        | r => r) = _
      rw [e1]
      show forI (fun _ => some (nums 0 m)) (gN 3) body (c + 1) (k + 1) _ (S ++ E1) = _
      rw [e2]
      simp
  obtain ⟨rs', w3, w4, w5, w6, hr', lp⟩ := loop m 0 [] none none none none (by omega) rfl ⟨⟨fun i r h => by simp at h, by simp, by simp⟩, by simp, by simp, by simp⟩
  refine ⟨rs', pur_run ?_, hr'⟩
  unfold b_f__law_rules
  refine pLet (pT pN) (fun _ => rfl) (pSeq (ε' := [some (scr ns), some (.int t), some (encRs rs'), w3, w4, w5, w6]) (fun S _ => ?_) (pRet pV))
  have it : PurE [] (dCall 3 (csem (n + 9) .f__law_drawn) (dCons (dVar 0) (dCons (dVar 1) (dCons (dC (.int 3)) dNil)))) [some (scr ns), some (.int t), some (encRs []), none, none, none, none] (.int m) := by
    rw [hm]
    exact pDrawn hl ht (by decide) pV pV pC
  obtain ⟨E, e1⟩ := it S List.nil_prefix
  obtain ⟨E2, e2⟩ := lp (S ++ E)
  refine ⟨E ++ E2, ?_⟩
  have e3 := iRange1_of (okR_of (by omega) (by omega)) e1
  rw [Int.toNat_natCast] at e3
  have := sFor_of e3 e2
  rw [← List.append_assoc]
  exact this
end DL

set_option Elab.async false
set_option linter.all false
set_option maxRecDepth 100000
set_option maxHeartbeats 1000000
namespace DL
open PySem L2
/-! ### what a run is, without stores -/
structure Stt where
  kept : Str → Int
  asked : List Int
  many : Nat
  spoken : List Int
  marks : List D
  cells : List Int
abbrev Thk := Stt → Int × Stt
def markA (v : Int) : D := .tup [.str "ask", .int v]
def markR (x : Str) (v : Int) : D := .tup [.str "read", .str x, .int v]
def markW (x : Str) (v : Int) : D := .tup [.str "write", .str x, .int v]
def markS (v : Int) : D := .tup [.str "say", .int v]
def tAskd : Thk := fun st => let a := (st.asked[st.many]?).getD 0; (a, { st with many := st.many + 1, marks := st.marks ++ [markA a] })
def tRead (x : Str) : Thk := fun st => (st.kept x, { st with marks := st.marks ++ [markR x (st.kept x)] })
def tWrt (x : Str) (v : Int) : Thk := fun st => (v, { st with kept := fun y => if y = x then v else st.kept y, marks := st.marks ++ [markW x v] })
def tSayd (v : Int) : Thk := fun st => (v, { st with spoken := st.spoken ++ [v], marks := st.marks ++ [markS v] })
/-! ### how it lies in a store -/
structure Pl where
  run : Nat
  w : Nat
  kept : Nat
  spoken : Nat
  marks : Nat
  cells : Nat
  asked : Nat
  ans : Nat
  rules : D
def runF (L : Pl) : List (Str × D) := [("rules", L.rules), ("world", .ref L.w), ("answers", .ref L.ans), ("place", .int 0), ("wanted", .non), ("cells", .ref L.cells)]
def wldF (L : Pl) (many : Nat) : List (Str × D) := [("kept", .ref L.kept), ("asked", .ref L.asked), ("many", .int many), ("spoken", .ref L.spoken), ("marks", .ref L.marks)]
def keptD (k : Str → Int) : List (Key × D) := abcd.map fun x => (.inr x, .int (k x))
def Pl.mut (L : Pl) : List Nat := [L.w, L.kept, L.spoken, L.marks, L.cells]
structure Rep (L : Pl) (S : Sto) (st : Stt) : Prop where
  run : S[L.run]? = some (.ins "Run" (runF L))
  w : S[L.w]? = some (.ins "World" (wldF L st.many))
  kept : S[L.kept]? = some (.dct (keptD st.kept))
  spoken : S[L.spoken]? = some (.lst (st.spoken.map .int))
  marks : S[L.marks]? = some (.lst st.marks)
  cells : S[L.cells]? = some (.lst (st.cells.map .int))
  asked : S[L.asked]? = some (.lst (st.asked.map .int))
structure Frm (L : Pl) (S S' : Sto) : Prop where
  len : S.length ≤ S'.length
  keep : ∀ n o, n ∉ L.mut → S[n]? = some o → S'[n]? = some o
theorem Frm.refl {L : Pl} {S : Sto} : Frm L S S := ⟨Nat.le_refl _, fun _ _ _ h => h⟩
theorem Frm.trans {L : Pl} {S S' S'' : Sto} (a : Frm L S S') (b : Frm L S' S'') : Frm L S S'' := ⟨Nat.le_trans a.len b.len, fun n o h e => b.keep n o h (a.keep n o h e)⟩
theorem Frm.set {L : Pl} {S : Sto} {n : Nat} {o : O} (h : n ∈ L.mut) : Frm L S (S.set n o) := ⟨by simp, fun m u hm e => by
  have : n ≠ m := fun q => hm (q ▸ h)
  rw [List.getElem?_set_ne this]
  exact e⟩
theorem Frm.app {L : Pl} {S E : Sto} : Frm L S (S ++ E) := ⟨by simp, fun n o _ e => by
  rw [List.getElem?_append_left (List.getElem?_eq_some_iff.mp e).1]
  exact e⟩
/-- the places are apart -/
structure Apart (L : Pl) : Prop where
  nd : L.mut.Nodup
  run : L.run ∉ L.mut
  asked : L.asked ∉ L.mut
/-- there is room for more -/
structure Fits (st : Stt) : Prop where
  m : st.marks.length < 100000
  s : st.spoken.length < 100000
  c : st.cells.length < 100000
structure Lst (a b : Stt) : Prop where
  m : a.marks.length ≤ b.marks.length
  s : a.spoken.length ≤ b.spoken.length
  c : a.cells.length ≤ b.cells.length
theorem Lst.refl {a : Stt} : Lst a a := ⟨Nat.le_refl _, Nat.le_refl _, Nat.le_refl _⟩
theorem Lst.trans {a b c : Stt} (x : Lst a b) (y : Lst b c) : Lst a c := ⟨Nat.le_trans x.m y.m, Nat.le_trans x.s y.s, Nat.le_trans x.c y.c⟩
theorem Fits.of {a b : Stt} (x : Lst a b) (f : Fits b) : Fits a := ⟨Nat.lt_of_le_of_lt x.m f.m, Nat.lt_of_le_of_lt x.s f.s, Nat.lt_of_le_of_lt x.c f.c⟩
/-! ### reading without a trace -/
def ZE (a : Den) (ε : Env) (d : D) : Prop := ∀ S, a ε S = .ok d S
def ZB (a : DenB) (ε : Env) (b : Bool) : Prop := ∀ S, a ε S = .ok b S
section
variable {o : Op} {a b : Den} {ba bb : DenB} {ε ε' : Env} {d e x : D} {i : Nat} {u v w : SDen} {g : GDen} {ds : List D} {t : Bool} {p q : Str} {S : Sto}
theorem zC : ZE (dC d) ε d := fun _ => rfl
theorem zV (h : ε[i]? = some (some d) := by rfl) : ZE (dVar i) ε d := fun _ => x_Var h
theorem zG {j : Int} (ha : ZE a ε (.tup ds)) (h : atI ds j = some x := by rfl) : ZE (dBin oGet a (dC (.int j))) ε x := fun S => by simp [ha S, h]
theorem zEqS (ha : ZE a ε (.str p)) (h : decide (p = q) = t := by decide +kernel) : ZB (dTest (dBin oEq a (dC (.str q)))) ε t := fun S => by
  refine x_Test ?_
  rw [x_Bin, ha S, x_bind, x_C, x_bind, x_eqS, h]
theorem zIn {qs : List Str} {r : DenA} (ha : ZE a ε (.str p)) (hr : ∀ S, r ε S = .ok (qs.map D.str) S) (hl : qs.length ≤ 1000 := by simp) (h : decide (p ∈ qs) = t := by decide +kernel) : ZB (dTest (dBin oIn a (dTup r))) ε t := fun S => by
  refine x_Test ?_
  have e : inD S (.str p) (.tup (qs.map D.str)) = some (decide (p ∈ qs)) := by
    unfold inD
    simp only [items_tup]
    rw [if_pos (show flatD (.str p) = true ∧ (qs.map D.str).all flatD = true from ⟨rfl, by rw [List.all_map]; exact List.all_eq_true.mpr fun _ _ => rfl⟩), List.any_map]
    congr 1
    rw [Bool.eq_iff_iff, List.any_eq_true, decide_eq_true_iff]
    constructor
    · rintro ⟨y, hy, e⟩
      have : y = p := by simpa [eqF] using e
      rw [← this]
      exact hy
    · intro hy
      exact ⟨p, hy, by simp [eqF]⟩
  rw [x_Bin, ha S, x_bind, x_Tup, hr S, x_bind, x_mkTup (by simpa using hl), x_bind]
  unfold oIn
  rw [e, h]
end
/-! ### running on, step by step -/
section
variable {o : Op} {a b : Den} {ba bb : DenB} {ε ε' : Env} {d e x : D} {i : Nat} {u v w : SDen} {g : GDen} {ds : List D} {t : Bool} {p q : Str} {S S1 S2 : Sto} {r : R Fl} {rd : R D} {ar : DenA} {f c m : Str} {n np nN : Nat} {fs : List (Str × D)} {F : Fn}
theorem eZ (h : ZE a ε d) : a ε S = .ok d S := h S
theorem eZB (h : ZB ba ε t) : ba ε S = .ok t S := h S
theorem run_rt {b : SDen} (h : b (ds.map some ++ List.replicate (nN - np) none) S = .ok (.rt d) S1) (hl : ds.length = np := by rfl) : runFn np nN b ds S = .ok d S1 := by rw [runFn_fin hl, h]; rfl
theorem run_nx {b : SDen} (h : b (ds.map some ++ List.replicate (nN - np) none) S = .ok (.nx ε) S1) (hl : ds.length = np := by rfl) : runFn np nN b ds S = .ok .non S1 := by rw [runFn_fin hl, h]; rfl
theorem eLet (ha : a ε S = .ok d S1) (k : w ε' S1 = r) (hg : ∀ S, g d ε S = some ε' := by intro _; rfl) : sSeq (sAsg a g) w ε S = r := by
  rw [x_Seq, x_Asg, ha, x_sE]
  simp only [hg, x_sN]
  exact k
theorem eAsg (ha : a ε S = .ok d S1) (hg : ∀ S, g d ε S = some ε' := by intro _; rfl) : sAsg a g ε S = .ok (.nx ε') S1 := by
  rw [x_Asg, ha, x_sE]
  simp only [hg]
theorem eSkip (h : ba ε S = .ok false S1) (k : w ε S1 = r) : sSeq (sIf ba u sNil) w ε S = r := by
  rw [x_Seq, x_sIf, h, x_sE, if_neg Bool.false_ne_true, x_sNil, x_sN]
  exact k
theorem eTake (h : ba ε S = .ok true S1) (k : u ε S1 = .ok (.rt d) S2) : sSeq (sIf ba u v) w ε S = .ok (.rt d) S2 := by
  rw [x_Seq, x_sIf, h, x_sE, if_pos rfl, k, x_sNr]
theorem eIfT (h : ba ε S = .ok true S1) (k : u ε S1 = r) : sIf ba u v ε S = r := by
  rw [x_sIf, h, x_sE, if_pos rfl]
  exact k
theorem eIfF (h : ba ε S = .ok false S1) (k : v ε S1 = r) : sIf ba u v ε S = r := by
  rw [x_sIf, h, x_sE, if_neg Bool.false_ne_true]
  exact k
theorem eSeq (h : u ε S = .ok (.nx ε') S1) (k : w ε' S1 = r) : sSeq u w ε S = r := by
  rw [x_Seq, h, x_sN]
  exact k
theorem eRet (h : a ε S = .ok d S1) : sRet a ε S = .ok (.rt d) S1 := by rw [x_Ret, h]; rfl
theorem eExpr (h : a ε S = .ok d S1) : sExpr a ε S = .ok (.nx ε) S1 := by rw [x_Expr, h]; rfl
theorem eBin (ha : a ε S = .ok d S1) (hb : b ε S1 = .ok e S2) (k : o d e S2 = rd) : dBin o a b ε S = rd := by
  rw [x_Bin, ha, x_bind, hb, x_bind]
  exact k
theorem eTest (ha : a ε S = .ok (.bl t) S1) : dTest a ε S = .ok t S1 := by unfold dTest; rw [ha]; rfl
theorem eCond (ha : ba ε S = .ok t S1) (k : (if t = true then a ε S1 else b ε S1) = rd) : dIf ba a b ε S = rd := by
  rw [x_If, ha, x_bind]
  exact k
theorem eNeg {j : Int} (ha : a ε S = .ok (.int j) S1) : dNeg a ε S = .ok (.int (-j)) S1 := by unfold dNeg; rw [ha]; rfl
theorem eNil : dNil ε S = .ok [] S := rfl
theorem eCons (ha : a ε S = .ok d S1) (hr : ar ε S1 = .ok ds S2) : dCons a ar ε S = .ok (d :: ds) S2 := by
  rw [x_Cons, ha, x_bind, hr, x_bind]
theorem eTup (hr : ar ε S = .ok ds S1) (h : ds.length ≤ 1000 := by simp) : dTup ar ε S = .ok (.tup ds) S1 := by
  rw [x_Tup, hr, x_bind, x_mkTup h]
theorem eCall (hr : ar ε S = .ok ds S1) (k : F ds S1 = rd) (h : ds.length = n := by rfl) : dCall n F ar ε S = rd := by
  rw [x_Call, hr, x_bind, if_pos h]
  exact k
theorem eFn (hr : ar ε S = .ok ds S1) (k : F ds S1 = rd) : dFn F ar ε S = rd := by
  rw [x_Fn, hr, x_bind]
  exact k
/-! ### objects -/
theorem eFld (ha : a ε S = .ok (.ref n) S1) (hn : S1[n]? = some (.ins c fs)) (hf : fs.lookup f = some x) : dFld f a ε S = .ok x S1 := by
  unfold dFld
  rw [ha, x_bind]
  simp only [insAt, hn, hf]
theorem eSetF (ha : a ε S = .ok x S1) (hb : b ε S1 = .ok (.ref n) S2) (hn : S2[n]? = some (.ins c fs)) (hl : fs.length < 1000) : sFldD f a b ε S = .ok (.nx ε) (S2.set n (.ins c (putFD f x fs))) := by
  unfold sFldD
  rw [ha, x_sE, hb, x_sE]
  simp only [insAt, hn]
  rw [if_pos hl]
theorem eApp (ha : a ε S = .ok (.ref n) S) (hn : S[n]? = some (.lst ds)) (hb : b ε S = .ok x S) (hl : ds.length < big) : dAppend a b ε S = .ok .non (S.set n (.lst (ds ++ [x]))) := by
  unfold dAppend
  rw [ha, x_bind]
  simp only [lstAt, hn, hb, x_bind]
  rw [if_pos hl]
theorem eMeth (ha : a ε S = .ok (.ref n) S1) (hn : S1[n]? = some (.ins c fs)) (hf : fs.lookup m = none) (hr : ar ε S1 = .ok ds S2) (k : F (.ref n :: ds) S2 = rd) (hl : ds.length + 1 = np := by rfl) : dMeth c m np F a ar ε S = rd := by
  unfold dMeth
  rw [ha, x_bind]
  simp only [insAt, hn]
  rw [if_pos (by simp [hf]), hr, x_bind, if_pos hl]
  exact k
theorem eGetD {k : Key} {kvs : List (Key × D)} (hn : S[n]? = some (.dct kvs)) (hk : keyD e = some k) (hv : valD kvs k = some x) : oGet (.ref n) e S = .ok x S := by
  unfold oGet
  simp only [dctAt, hn, hk, hv]
theorem eGetL {j : Int} (hn : S[n]? = some (.lst ds)) (hv : atI ds j = some x) : oGet (.ref n) (.int j) S = .ok x S := x_get (ds := ds) (by simp only [dctAt, hn]) (by simp only [items, hn]) hv
theorem ePutD {k : Key} {kvs : List (Key × D)} (hc : a ε S = .ok x S1) (ho : b ε S1 = .ok (.ref n) S1) {kk : Den} (hk : kk ε S1 = .ok e S1) (hn : S1[n]? = some (.dct kvs)) (hj : keyD e = some k) (hl : kvs.length < big) : sPut b kk a ε S = .ok (.nx ε) (S1.set n (.dct (putD kvs k x))) := by
  unfold sPut
  rw [hc, x_sE, ho, x_sE, hk, x_sE]
  simp only [dctAt, hn, hj]
  rw [if_pos hl]
end
/-! ### a touch -/
section
variable {L : Pl} {S : Sto} {st : Stt}
theorem big5 {n : Nat} (h : n < 100000) : n < big := Nat.lt_trans h (by decide)
theorem kept_val {k : Str → Int} {x : Str} (hx : x ∈ abcd) : valD (keptD k) (.inr x) = some (.int (k x)) := by
  simp only [abcd, List.mem_cons, List.not_mem_nil, or_false] at hx
  rcases hx with rfl | rfl | rfl | rfl <;> rfl
theorem kept_put {k : Str → Int} {x : Str} {v : Int} (hx : x ∈ abcd) : putD (keptD k) (.inr x) (.int v) = keptD (fun y => if y = x then v else k y) := by
  simp only [abcd, List.mem_cons, List.not_mem_nil, or_false] at hx
  rcases hx with rfl | rfl | rfl | rfl <;> rfl
theorem gset {α : Type} {l : List α} {i j : Nat} {x y : α} (h : l[j]? = some y) (hn : i ≠ j) : (l.set i x)[j]? = some y := by rw [List.getElem?_set_ne hn]; exact h
theorem gsame {α : Type} {l : List α} {i : Nat} {x y : α} (h : l[i]? = some y) : (l.set i x)[i]? = some x := by
  rw [List.getElem?_set_self (List.getElem?_eq_some_iff.mp h).1]
structure Nes (L : Pl) : Prop where
  a : L.w ≠ L.kept
  b : L.w ≠ L.spoken
  c : L.w ≠ L.marks
  d : L.w ≠ L.cells
  e : L.kept ≠ L.spoken
  f : L.kept ≠ L.marks
  g : L.kept ≠ L.cells
  h : L.spoken ≠ L.marks
  i : L.spoken ≠ L.cells
  j : L.marks ≠ L.cells
  ra : L.w ≠ L.run
  rb : L.kept ≠ L.run
  rc : L.spoken ≠ L.run
  rd : L.marks ≠ L.run
  re : L.cells ≠ L.run
  qa : L.w ≠ L.asked
  qb : L.kept ≠ L.asked
  qc : L.spoken ≠ L.asked
  qd : L.marks ≠ L.asked
  qe : L.cells ≠ L.asked
theorem Apart.nes (ap : Apart L) : Nes L := by
  have nd := ap.nd
  have nr := ap.run
  have na := ap.asked
  simp only [Pl.mut, List.nodup_cons, List.mem_cons, List.not_mem_nil, or_false, not_or] at nd nr na
  obtain ⟨⟨a, b, c, d⟩, ⟨e, f, g⟩, ⟨h, i⟩, j, _⟩ := nd
  obtain ⟨r1, r2, r3, r4, r5⟩ := nr
  obtain ⟨q1, q2, q3, q4, q5⟩ := na
  exact ⟨a, b, c, d, e, f, g, h, i, j, Ne.symm r1, Ne.symm r2, Ne.symm r3, Ne.symm r4, Ne.symm r5, Ne.symm q1, Ne.symm q2, Ne.symm q3, Ne.symm q4, Ne.symm q5⟩
theorem Rep.setMarks (R : Rep L S st) (N : Nes L) (ms : List D) : Rep L (S.set L.marks (.lst ms)) { st with marks := ms } :=
  ⟨gset R.run N.rd, gset R.w N.c.symm, gset R.kept N.f.symm, gset R.spoken N.h.symm, gsame R.marks, gset R.cells N.j, gset R.asked N.qd⟩
theorem Rep.setSpoken (R : Rep L S st) (N : Nes L) (ms : List Int) : Rep L (S.set L.spoken (.lst (ms.map .int))) { st with spoken := ms } :=
  ⟨gset R.run N.rc, gset R.w N.b.symm, gset R.kept N.e.symm, gsame R.spoken, gset R.marks N.h, gset R.cells N.i, gset R.asked N.qc⟩
theorem Rep.setCells (R : Rep L S st) (N : Nes L) (ms : List Int) : Rep L (S.set L.cells (.lst (ms.map .int))) { st with cells := ms } :=
  ⟨gset R.run N.re, gset R.w N.d.symm, gset R.kept N.g.symm, gset R.spoken N.i.symm, gset R.marks N.j.symm, gsame R.cells, gset R.asked N.qe⟩
theorem Rep.setKept (R : Rep L S st) (N : Nes L) (k : Str → Int) : Rep L (S.set L.kept (.dct (keptD k))) { st with kept := k } :=
  ⟨gset R.run N.rb, gset R.w N.a.symm, gsame R.kept, gset R.spoken N.e, gset R.marks N.f, gset R.cells N.g, gset R.asked N.qb⟩
theorem Rep.setMany (R : Rep L S st) (N : Nes L) (m : Nat) : Rep L (S.set L.w (.ins "World" (wldF L m))) { st with many := m } :=
  ⟨gset R.run N.ra, gsame R.w, gset R.kept N.a, gset R.spoken N.b, gset R.marks N.c, gset R.cells N.d, gset R.asked N.qa⟩
theorem Rep.app (R : Rep L S st) (E : Sto) : Rep L (S ++ E) st := by
  have g : ∀ {n o}, S[n]? = some o → (S ++ E)[n]? = some o := fun {n o} e => by
    rw [List.getElem?_append_left (List.getElem?_eq_some_iff.mp e).1]
    exact e
  exact ⟨g R.run, g R.w, g R.kept, g R.spoken, g R.marks, g R.cells, g R.asked⟩
theorem touched_read (n : Nat) {x : Str} (ap : Apart L) (R : Rep L S st) (hf : Fits (tRead x st).2) (hx : x ∈ abcd) :
    ∃ S', csem (n + 2) .m_World_touched [.ref L.w, .tup [.str "read", .str x]] S = .ok (.int (tRead x st).1) S' ∧ Frm L S S' ∧ Rep L S' (tRead x st).2 := by
  have hm := hf.m
  simp only [tRead, List.length_append, List.length_singleton] at hm
  refine ⟨S.set L.marks (.lst (st.marks ++ [markR x (st.kept x)])), ?_, Frm.set (by simp [Pl.mut]), R.setMarks ap.nes _⟩
  rw [cs_m_World_touched]
  refine run_rt ?_
  unfold b_m_World_touched
  refine eSeq (eIfF (eZB (zEqS (zG zV))) (eIfT (eZB (zEqS (zG zV))) (eAsg (eBin (eFld (eZ zV) R.w rfl) (eZ (zG zV)) (eGetD R.kept rfl (kept_val hx)))))) ?_
  refine eSkip (eZB (zEqS (zG zV))) (eSkip (eZB (zEqS (zG zV))) (eSeq (eExpr (eApp (eFld (eZ zV) R.w rfl) R.marks (eCond (eZB (zIn (qs := ["write", "say"]) (t := false) (zG zV) (fun _ => rfl))) ?_) (big5 (by omega)))) (eRet (eZ zV))))
  rw [if_neg Bool.false_ne_true]
  rfl
theorem touched_write (n : Nat) {x : Str} {v : Int} (ap : Apart L) (R : Rep L S st) (hf : Fits (tWrt x v st).2) (hx : x ∈ abcd) :
    ∃ S', csem (n + 2) .m_World_touched [.ref L.w, .tup [.str "write", .str x, .int v]] S = .ok (.int (tWrt x v st).1) S' ∧ Frm L S S' ∧ Rep L S' (tWrt x v st).2 := by
  have hm := hf.m
  simp only [tWrt, List.length_append, List.length_singleton] at hm
  have R1 := R.setKept ap.nes fun y => if y = x then v else st.kept y
  refine ⟨(S.set L.kept (.dct (keptD fun y => if y = x then v else st.kept y))).set L.marks (.lst (st.marks ++ [markW x v])), ?_, (Frm.set (by simp [Pl.mut])).trans (Frm.set (by simp [Pl.mut])), R1.setMarks ap.nes _⟩
  rw [cs_m_World_touched]
  refine run_rt ?_
  unfold b_m_World_touched
  refine eSeq (eIfF (eZB (zEqS (zG zV))) (eIfF (eZB (zEqS (zG zV))) (eAsg (eBin (eZ zV) (eNeg (eZ zC)) rfl)))) ?_
  have this := ePutD (a := dVar 2) (b := dFld "kept" (dVar 0)) (kk := dBin oGet (dVar 1) (dC (.int 1))) (ε := [some (D.ref L.w), some (.tup [.str "write", .str x, .int v]), some (.int v)]) (S := S) (eZ zV) (eFld (eZ zV) R.w rfl) (eZ (zG zV)) R.kept rfl (show 4 < big by decide)
  rw [kept_put hx] at this
  refine eSeq (eIfT (eZB (zEqS (zG zV))) this) ?_
  refine eSkip (eZB (zEqS (zG zV))) (eSeq (eExpr (eApp (eFld (eZ zV) R1.w rfl) R1.marks (eCond (eZB (zIn (qs := ["write", "say"]) (t := true) (zG zV) (fun _ => rfl))) ?_) (big5 (show st.marks.length < 100000 by omega)))) (eRet (eZ zV)))
  rw [if_pos rfl]
  rfl
theorem touched_say (n : Nat) {v : Int} (ap : Apart L) (R : Rep L S st) (hf : Fits (tSayd v st).2) :
    ∃ S', csem (n + 2) .m_World_touched [.ref L.w, .tup [.str "say", .int v]] S = .ok (.int (tSayd v st).1) S' ∧ Frm L S S' ∧ Rep L S' (tSayd v st).2 := by
  have hm := hf.m
  have hs := hf.s
  simp only [tSayd, List.length_append, List.length_singleton] at hm hs
  have R1 := R.setSpoken ap.nes (st.spoken ++ [v])
  refine ⟨(S.set L.spoken (.lst ((st.spoken ++ [v]).map .int))).set L.marks (.lst (st.marks ++ [markS v])), ?_, (Frm.set (by simp [Pl.mut])).trans (Frm.set (by simp [Pl.mut])), R1.setMarks ap.nes _⟩
  rw [cs_m_World_touched]
  refine run_rt ?_
  unfold b_m_World_touched
  refine eSeq (eIfF (eZB (zEqS (zG zV))) (eIfF (eZB (zEqS (zG zV))) (eAsg (eBin (eZ zV) (eNeg (eZ zC)) rfl)))) ?_
  refine eSkip (eZB (zEqS (zG zV))) (eSeq (eIfT (eZB (zEqS (zG zV))) (eExpr (d := .non) (S1 := S.set L.spoken (.lst ((st.spoken ++ [v]).map .int))) ?_)) (eSeq (eExpr (eApp (eFld (eZ zV) R1.w rfl) R1.marks (eCond (eZB (zIn (qs := ["write", "say"]) (t := true) (zG zV) (fun _ => rfl))) ?_) (big5 (show st.marks.length < 100000 by omega)))) (eRet (eZ zV))))
  · rw [List.map_append]
    exact eApp (eFld (eZ zV) R.w rfl) R.spoken (eZ zV) (big5 (by rw [List.length_map]; omega))
  · rw [if_pos rfl]
    rfl
theorem touched_ask (n : Nat) (ap : Apart L) (R : Rep L S st) (hf : Fits (tAskd st).2) :
    ∃ S', csem (n + 2) .m_World_touched [.ref L.w, .tup [.str "ask"]] S = .ok (.int (tAskd st).1) S' ∧ Frm L S S' ∧ Rep L S' (tAskd st).2 := by
  have hm := hf.m
  simp only [tAskd, List.length_append, List.length_singleton] at hm
  have R1 := R.setMany ap.nes (st.many + 1)
  refine ⟨(S.set L.w (.ins "World" (wldF L (st.many + 1)))).set L.marks (.lst (st.marks ++ [markA ((st.asked[st.many]?).getD 0)])), ?_, (Frm.set (by simp [Pl.mut])).trans (Frm.set (by simp [Pl.mut])), R1.setMarks ap.nes _⟩
  rw [cs_m_World_touched]
  refine run_rt ?_
  unfold b_m_World_touched
  have e0 : dFld "many" (dVar 0) (List.map some [D.ref L.w, .tup [.str "ask"]] ++ List.replicate (3 - 2) none) S = .ok (.int st.many) S := eFld (eZ zV) R.w rfl
  have e1 : dFld "asked" (dVar 0) (List.map some [D.ref L.w, .tup [.str "ask"]] ++ List.replicate (3 - 2) none) S = .ok (.ref L.asked) S := eFld (eZ zV) R.w rfl
  have el : fLen [.ref L.asked] S = .ok (.int st.asked.length) S := by
    unfold fLen
    simp only [items, R.asked, List.length_map]
  have e4 : sFldD "many" (dBin oAdd (dFld "many" (dVar 0)) (dC (.int 1))) (dVar 0) [some (D.ref L.w), some (.tup [.str "ask"]), some (.int ((st.asked[st.many]?).getD 0))] S = .ok (.nx [some (D.ref L.w), some (.tup [.str "ask"]), some (.int ((st.asked[st.many]?).getD 0))]) (S.set L.w (.ins "World" (wldF L (st.many + 1)))) :=
    eSetF (eBin (eFld (eZ zV) R.w rfl) (eZ zC) (x_addI (i := st.many) (j := 1))) (eZ zV) R.w (by show 5 < 1000; decide)
  refine eSeq (eIfT (eZB (zEqS (zG zV))) (eLet (d := .int ((st.asked[st.many]?).getD 0)) (S1 := S) (eCond (S1 := S) (eTest (t := decide (st.many < st.asked.length)) (eBin e0 (eFn (eCons e1 eNil) el) ?_)) ?_) e4)) ?_
  · rw [x_ltI]
    congr 2
    simp
  · by_cases h : st.many < st.asked.length
    · rw [if_pos (by simpa using h)]
      refine eBin e1 e0 (eGetL R.asked ?_)
      rw [atI_in (by omega) (by simpa using h), List.getElem?_map, Int.toNat_natCast, List.getElem?_eq_getElem h]
      rfl
    · rw [if_neg (by simpa using h), List.getElem?_eq_none (by omega)]
      rfl
  refine eSkip (eZB (zEqS (zG zV))) (eSkip (eZB (zEqS (zG zV))) (eSeq (eExpr (eApp (eFld (eZ zV) R1.w rfl) R1.marks (eCond (eZB (zIn (qs := ["write", "say"]) (t := false) (zG zV) (fun _ => rfl))) ?_) (big5 (show st.marks.length < 100000 by omega)))) (eRet (eZ zV))))
  rw [if_neg Bool.false_ne_true]
  rfl
/-- self.touch(mark), the world there -/
theorem touch_sem (n : Nat) {mk : D} {v : Int} {S' : Sto} (R : Rep L S st) (h : csem (n + 2) .m_World_touched [.ref L.w, mk] S = .ok (.int v) S') : csem (n + 3) .m_Run_touch [.ref L.run, mk] S = .ok (.int v) S' := by
  rw [cs_m_Run_touch]
  refine run_rt ?_
  unfold b_m_Run_touch
  exact eTake (eTest (t := true) (eBin (eFld (eZ zV) R.run rfl) (eZ zC) rfl)) (eRet (eMeth (eFld (eZ zV) R.run rfl) R.w rfl (eCons (eZ zV) eNil) h))
end
end DL

set_option Elab.async false
set_option linter.all false
set_option maxRecDepth 100000
set_option maxHeartbeats 1000000
namespace DL
open PySem L2
/-! ### what a deed comes to -/
inductive EV where
  | int (v : Int) | cell (i : Nat) | th (t : Thk)
abbrev Ev := Str → Option EV
abbrev RS := List Int → List Thk → Thk
def putE (x : Str) (v : EV) (env : Ev) : Ev := fun y => if y = x then some v else env y
def envOf (xs : List (Str × EV)) : Ev := fun y => xs.lookup y
def iterT (t : Thk) : Nat → Stt → Stt
  | 0, st => st
  | n + 1, st => iterT t n (t st).2
def Stt.setC (s : Stt) (i : Nat) (v : Int) : Stt := ⟨s.kept, s.asked, s.many, s.spoken, s.marks, s.cells.set i v⟩
def Stt.push (s : Stt) (v : Int) : Stt := ⟨s.kept, s.asked, s.many, s.spoken, s.marks, s.cells ++ [v]⟩
mutual
def den (rs : List RS) : Deed → Ev → Thk
  | .num i, _ => fun st => (i, st)
  | .nam x, env => fun st => match env x with
    | some (.int v) => (v, st)
    | _ => (0, st)
  | .dod x, env => fun st => match env x with
    | some (.th t) => t st
    | _ => (0, st)
  | .ask, _ => tAskd
  | .rd x, env => fun st => match env x with
    | some (.cell i) => ((st.cells[i]?).getD 0, st)
    | _ => tRead x st
  | .wr x a, env => fun st => match env x with
    | some (.cell i) => ((den rs a env st).1, (den rs a env st).2.setC i (den rs a env st).1)
    | _ => tWrt x (den rs a env st).1 (den rs a env st).2
  | .say a, env => fun st => tSayd (den rs a env st).1 (den rs a env st).2
  | .lt x a b, env => fun st => den rs b (putE x (.int (den rs a env st).1) env) (den rs a env st).2
  | .own x a b, env => fun st => den rs b (putE x (.cell (den rs a env st).2.cells.length) env) ((den rs a env st).2.push (den rs a env st).1)
  | .iff a b c, env => fun st => if (den rs a env st).1 ≠ 0 then den rs b env (den rs a env st).2 else den rs c env (den rs a env st).2
  | .two .thn a b, env => fun st => den rs b env (den rs a env st).2
  | .two .add a b, env => fun st => (((den rs a env st).1 + (den rs b env (den rs a env st).2).1) % 1009, (den rs b env (den rs a env st).2).2)
  | .two .les a b, env => fun st => (if (den rs a env st).1 < (den rs b env (den rs a env st).2).1 then 1 else 0, (den rs b env (den rs a env st).2).2)
  | .two .lop a b, env => fun st => (0, iterT (den rs b env) ((den rs a env st).1 % 4).toNat (den rs a env st).2)
  | .call i ps hs, env => fun st => ((rs[i]?).getD fun _ _ st => (0, st)) (denL rs ps env st).1 (denT rs hs env) (denL rs ps env st).2
def denL (rs : List RS) : List Deed → Ev → Stt → List Int × Stt
  | [], _, st => ([], st)
  | d :: ds, env, st => ((den rs d env st).1 :: (denL rs ds env (den rs d env st).2).1, (denL rs ds env (den rs d env st).2).2)
def denT (rs : List RS) : List Deed → Ev → List Thk
  | [], _ => []
  | d :: ds, env => den rs d env :: denT rs ds env
end
/-! ### what is written grows -/
def Grow (t : Thk) : Prop := ∀ st, Lst st (t st).2
def GrowE (env : Ev) : Prop := ∀ x t, env x = some (.th t) → Grow t
def GrowR (rs : List RS) : Prop := ∀ f ∈ rs, ∀ ws ts, (∀ t ∈ ts, Grow t) → Grow (f ws ts)
theorem grow_ask : Grow tAskd := fun st => ⟨by simp [tAskd], by simp [tAskd], by simp [tAskd]⟩
theorem grow_read (x : Str) : Grow (tRead x) := fun st => ⟨by simp [tRead], by simp [tRead], by simp [tRead]⟩
theorem grow_wrt (x : Str) (v : Int) : Grow (tWrt x v) := fun st => ⟨by simp [tWrt], by simp [tWrt], by simp [tWrt]⟩
theorem grow_say (v : Int) : Grow (tSayd v) := fun st => ⟨by simp [tSayd], by simp [tSayd], by simp [tSayd]⟩
theorem GrowE.put {env : Ev} {x : Str} {v : EV} (h : GrowE env) (hv : ∀ t, v = .th t → Grow t) : GrowE (putE x v env) := fun y t e => by
  unfold putE at e
  split at e
  · cases e; exact hv t rfl
  · exact h y t e
theorem grow_iter {t : Thk} (h : Grow t) : ∀ n st, Lst st (iterT t n st)
  | 0, st => Lst.refl
  | n + 1, st => (h st).trans (grow_iter h n _)
mutual
theorem den_grow {rs : List RS} (hr : GrowR rs) : ∀ (d : Deed) {env : Ev}, GrowE env → Grow (den rs d env)
  | .num i, env, h => fun st => by unfold den; exact .refl
  | .nam x, env, h => fun st => by unfold den; split <;> exact .refl
  | .dod x, env, h => fun st => by
    unfold den
    split
    · rename_i t e; exact h x t e st
    · exact .refl
  | .ask, env, h => by unfold den; exact grow_ask
  | .rd x, env, h => fun st => by
    unfold den
    split
    · exact .refl
    · exact grow_read x st
  | .wr x a, env, h => fun st => by
    have ga := den_grow hr a h st
    unfold den
    split
    · exact ga.trans ⟨Nat.le_refl _, Nat.le_refl _, by simp [Stt.setC]⟩
    · exact ga.trans (grow_wrt x _ _)
  | .say a, env, h => fun st => by
    have ga := den_grow hr a h st
    unfold den
    exact ga.trans (grow_say _ _)
  | .lt x a b, env, h => fun st => by
    have ga := den_grow hr a h st
    have gb := den_grow hr b (h.put (x := x) (v := .int (den rs a env st).1) fun t e => by cases e) (den rs a env st).2
    unfold den
    exact ga.trans gb
  | .own x a b, env, h => fun st => by
    have ga := den_grow hr a h st
    have gb := den_grow hr b (h.put (x := x) (v := .cell (den rs a env st).2.cells.length) fun t e => by cases e) ((den rs a env st).2.push (den rs a env st).1)
    unfold den
    exact (ga.trans (⟨Nat.le_refl _, Nat.le_refl _, by simp [Stt.push]⟩ : Lst (den rs a env st).2 ((den rs a env st).2.push (den rs a env st).1))).trans gb
  | .iff a b c, env, h => fun st => by
    have ga := den_grow hr a h st
    unfold den
    split
    · exact ga.trans (den_grow hr b h _)
    · exact ga.trans (den_grow hr c h _)
  | .two .thn a b, env, h => fun st => by
    unfold den
    exact (den_grow hr a h st).trans (den_grow hr b h _)
  | .two .add a b, env, h => fun st => by
    unfold den
    exact (den_grow hr a h st).trans (den_grow hr b h _)
  | .two .les a b, env, h => fun st => by
    unfold den
    exact (den_grow hr a h st).trans (den_grow hr b h _)
  | .two .lop a b, env, h => fun st => by
    unfold den
    exact (den_grow hr a h st).trans (grow_iter (den_grow hr b h) _ _)
  | .call i ps hs, env, h => fun st => by
    unfold den
    refine (denL_grow hr ps h st).trans ?_
    cases e : rs[i]? with
    | none => exact .refl
    | some f => exact hr f (List.mem_of_getElem? e) _ _ (denT_grow hr hs h) _
theorem denL_grow {rs : List RS} (hr : GrowR rs) : ∀ (ds : List Deed) {env : Ev}, GrowE env → ∀ st, Lst st (denL rs ds env st).2
  | [], env, h, st => by unfold denL; exact .refl
  | d :: ds, env, h, st => by
    unfold denL
    exact (den_grow hr d h st).trans (denL_grow hr ds h _)
theorem denT_grow {rs : List RS} (hr : GrowR rs) : ∀ (ds : List Deed) {env : Ev}, GrowE env → ∀ t ∈ denT rs ds env, Grow t
  | [], env, h, t, m => by unfold denT at m; cases m
  | d :: ds, env, h, t, m => by
    unfold denT at m
    rcases List.mem_cons.mp m with e | m
    · rw [e]; exact den_grow hr d h
    · exact denT_grow hr ds h t m
end
/-! ### the program does it -/
/-- the worth of p, known at r, is t; from the store S on, with c cells or more, at m levels or more -/
def Impl (L : Pl) (S0 : Sto) (c : Nat) (t : Thk) (p : D) (r m : Nat) : Prop :=
  ∀ n, m ≤ n → ∀ S st, Frm L S0 S → Rep L S st → c ≤ st.cells.length → Fits (t st).2 → ∃ S', csem n .m_Run_worth [.ref L.run, p, .ref r] S = .ok (.int (t st).1) S' ∧ Frm L S S' ∧ Rep L S' (t st).2
theorem Impl.up {L : Pl} {S S' : Sto} {c c' : Nat} {t : Thk} {p : D} {r m m' : Nat} (h : Impl L S c t p r m) (f : Frm L S S') (hc : c ≤ c') (hm : m ≤ m') : Impl L S' c' t p r m' :=
  fun n hn S1 st f1 R k fi => h n (Nat.le_trans hm hn) S1 st (f.trans f1) R (Nat.le_trans hc k) fi
/-- how a value of the surroundings stands in the dict -/
def EvOk (L : Pl) (S : Sto) (c m : Nat) (x : Str) (v : EV) (o : Option D) : Prop := match v with
  | .int v => o = some (.int v) ∧ kd x = 1
  | .cell i => o = some (.int (i : Int)) ∧ kd x = 2 ∧ i < c
  | .th t => (∃ p r, o = some (.tup [p, .ref r]) ∧ Impl L S c t p r m) ∧ kd x = 3
structure EnvOk (L : Pl) (S : Sto) (c r m b : Nat) (env : Ev) (K : List Str) : Prop where
  d : ∃ kvs, S[r]? = some (.dct kvs) ∧ kvs.length ≤ b ∧ ∀ x, match env x with
    | none => valD kvs (.inr x) = none
    | some v => EvOk L S c m x v (valD kvs (.inr x))
  r : r ∉ L.mut
  k : ∀ x ∈ K, env x ≠ none
theorem EvOk.up {L : Pl} {S S' : Sto} {c c' m : Nat} {x : Str} {v : EV} {o : Option D} (h : EvOk L S c m x v o) (f : Frm L S S') (hc : c ≤ c') : EvOk L S' c' m x v o := by
  cases v with
  | int v => exact h
  | cell i => exact ⟨h.1, h.2.1, Nat.lt_of_lt_of_le h.2.2 hc⟩
  | th t =>
    obtain ⟨⟨p, r, e, i⟩, k⟩ := h
    exact ⟨⟨p, r, e, i.up f hc (Nat.le_refl _)⟩, k⟩
theorem EnvOk.up {L : Pl} {S S' : Sto} {c c' r m b : Nat} {env : Ev} {K : List Str} (h : EnvOk L S c r m b env K) (f : Frm L S S') (hc : c ≤ c') : EnvOk L S' c' r m b env K := by
  obtain ⟨⟨kvs, e, hl, hx⟩, hr, hk⟩ := h
  refine ⟨⟨kvs, f.keep _ _ hr e, hl, fun x => ?_⟩, hr, hk⟩
  have := hx x
  cases q : env x with
  | none => rw [q] at this; exact this
  | some v => rw [q] at this; exact this.up f hc
end DL

set_option Elab.async false
set_option linter.all false
set_option maxRecDepth 100000
set_option maxHeartbeats 1000000
namespace DL
open PySem L2
/-! ### dicts -/
theorem valD_put {κ : Type} [DecidableEq κ] (k : κ) (v : D) (k' : κ) : ∀ kvs : List (κ × D), valD (putD kvs k v) k' = if k' = k then some v else valD kvs k' := by
  intro kvs
  unfold putD
  split
  · rename_i h
    unfold valD
    induction kvs with
    | nil => simp at h
    | cons a r ih =>
      obtain ⟨ka, va⟩ := a
      by_cases e : ka = k
      · subst e
        by_cases e2 : k' = ka
        · subst e2; simp
        · have e3 : ¬ ka = k' := fun q => e2 q.symm
          simp only [List.map_cons, if_true, List.find?_cons, e3, e2, decide_false, if_false]
          by_cases hr : (r.any fun kv => decide (kv.1 = ka)) = true
          · rw [ih hr, if_neg e2]
          · have : r.map (fun kv => if kv.1 = ka then (kv.1, v) else kv) = r := by
              refine (List.map_congr_left (g := id) fun x hx => ?_).trans (List.map_id _)
              rw [if_neg]
              · rfl
              · intro q
                exact hr (List.any_eq_true.mpr ⟨x, hx, decide_eq_true q⟩)
            rw [this]
      · have hr : (r.any fun kv => decide (kv.1 = k)) = true := by simpa [e] using h
        simp only [List.map_cons, e, if_false, List.find?_cons]
        by_cases e2 : ka = k'
        · subst e2
          simp [e]
        · simp only [e2, decide_false]
          exact ih hr
  · rename_i h
    unfold valD
    rw [List.find?_append]
    by_cases e : k' = k
    · subst e
      have : kvs.find? (fun kv => decide (kv.1 = k')) = none := by
        rw [List.find?_eq_none]
        intro x hx q
        exact h (List.any_eq_true.mpr ⟨x, hx, q⟩)
      simp [this]
    · have e3 : ¬ k = k' := fun q => e q.symm
      rw [if_neg e]
      simp [e3]
theorem putD_len {κ : Type} [DecidableEq κ] (k : κ) (v : D) (kvs : List (κ × D)) : (putD kvs k v).length ≤ kvs.length + 1 := by
  unfold putD
  split <;> simp
section
variable {L : Pl} {S S0 : Sto} {st : Stt} {ε : Env} {c r m n b : Nat} {env : Ev} {K : List Str} {x : Str} {t : Thk} {p : D}
theorem Rep.lt (R : Rep L S st) : ∀ k ∈ L.mut, k < S.length := by
  intro k h
  simp only [Pl.mut, List.mem_cons, List.not_mem_nil, or_false] at h
  rcases h with rfl | rfl | rfl | rfl | rfl
  · exact (List.getElem?_eq_some_iff.mp R.w).1
  · exact (List.getElem?_eq_some_iff.mp R.kept).1
  · exact (List.getElem?_eq_some_iff.mp R.spoken).1
  · exact (List.getElem?_eq_some_iff.mp R.marks).1
  · exact (List.getElem?_eq_some_iff.mp R.cells).1
theorem EnvOk.get (h : EnvOk L S c r m b env K) (hx : x ∈ K) : ∃ v kvs, env x = some v ∧ S[r]? = some (.dct kvs) ∧ EvOk L S c m x v (valD kvs (.inr x)) := by
  obtain ⟨⟨kvs, e, _, q⟩, _, hk⟩ := h
  have := q x
  cases e2 : env x with
  | none => exact absurd e2 (hk x hx)
  | some v => rw [e2] at this; exact ⟨v, kvs, rfl, e, this⟩
theorem kd_abcd : ∀ x ∈ abcd, kd x = 0 := by decide +kernel
theorem EnvOk.none (h : EnvOk L S c r m b env K) (hx : x ∈ abcd) : env x = none ∧ ∃ kvs, S[r]? = some (.dct kvs) ∧ valD kvs (.inr x) = none := by
  obtain ⟨⟨kvs, e, _, q⟩, _, _⟩ := h
  have := q x
  have k0 := kd_abcd x hx
  cases e2 : env x with
  | none => rw [e2] at this; exact ⟨rfl, kvs, e, this⟩
  | some v =>
    rw [e2] at this
    cases v with
    | int v => have := this.2; omega
    | cell i => have := this.2.1; omega
    | th t => have := this.2; omega
/-- self.worth(a, b) -/
theorem eW {a bb : Den} (I : Impl L S0 c t p r m) (hn : m ≤ n) (F : Frm L S0 S) (R : Rep L S st) (hc : c ≤ st.cells.length) (hf : Fits (t st).2) (h0 : ε[0]? = some (some (.ref L.run))) (ha : ZE a ε p) (hb : ZE bb ε (.ref r)) :
    ∃ S', dMeth "Run" "worth" 3 (csem n .m_Run_worth) (dVar 0) (dCons a (dCons bb dNil)) ε S = .ok (.int (t st).1) S' ∧ Frm L S S' ∧ Rep L S' (t st).2 := by
  obtain ⟨S', e, f, R'⟩ := I n hn S st F R hc hf
  exact ⟨S', eMeth (eZ (zV h0)) R.run rfl (eCons (eZ ha) (eCons (eZ hb) eNil)) e, f, R'⟩
theorem eGet2 {a k x : Den} {kk d : D} {j : Key} {kvs : List (Key × D)} (ha : ZE a ε (.ref r)) (hk : ZE k ε kk) (hx : ZE x ε d) (hn : S[r]? = some (.dct kvs)) (hj : keyD kk = some j) : dGet2 a k x ε S = .ok ((valD kvs j).getD d) S := by
  unfold dGet2
  rw [eZ ha, x_bind]
  simp only [dctAt, hn]
  rw [eZ hk, x_bind, eZ hx, x_bind]
  simp only [hn, hj]
theorem isi_s : isiD "str" S (.str x) = some true := by rfl
theorem isi_i {i : Int} : isiD "str" S (.int i) = some false := by rfl
theorem eIsi {a : Den} {d : D} {q : Bool} {cn : String} {S1 : Sto} (ha : a ε S = .ok d S1) (h : isiD cn S1 d = some q) : dIsi cn a ε S = .ok (.bl q) S1 := by
  unfold dIsi
  rw [ha, x_bind, h]
/-! ### shelves -/
theorem shelf_read (ap : Apart L) (E : EnvOk L S c r m b env K) (R : Rep L S st) (hc : c ≤ st.cells.length) (hf : Fits (den [] (.rd x) env st).2) (ho : (x ∈ K ∧ kd x = 2) ∨ x ∈ abcd) :
    ∃ S', csem (n + 4) .m_Run_at_shelf [.ref L.run, .tup [.str "read", .str x], .ref r] S = .ok (.int (den [] (.rd x) env st).1) S' ∧ Frm L S S' ∧ Rep L S' (den [] (.rd x) env st).2 := by
  rw [cs_m_Run_at_shelf]
  rcases ho with ⟨hk, k2⟩ | hx
  · obtain ⟨v, kvs, ev, er, ok⟩ := E.get hk
    cases v with
    | int v => have := ok.2; omega
    | th t => have := ok.2; omega
    | cell i =>
      have hi : i < st.cells.length := by have := ok.2.2; omega
      unfold den
      simp only [ev]
      refine ⟨S, ?_, Frm.refl, R⟩
      refine run_rt ?_
      unfold b_m_Run_at_shelf
      have e0 := eGet2 (ε := List.map some [D.ref L.run, .tup [.str "read", .str x], .ref r] ++ List.replicate (5 - 3) none) (a := dVar 2) (k := dBin oGet (dVar 1) (dC (.int 1))) (x := dBin oGet (dVar 1) (dC (.int 1))) zV (zG zV) (zG zV) er rfl
      rw [ok.1] at e0
      refine eLet e0 ?_
      refine eTake (eZB (zEqS (zG zV))) (eRet (eCond (eTest (eIsi (eZ zV) isi_i)) ?_))
      rw [if_neg Bool.false_ne_true]
      refine eBin (eFld (eZ zV) R.run rfl) (eZ zV) (eGetL R.cells ?_)
      show atI (List.map D.int st.cells) (i : Int) = _
      rw [atI_in (by omega) (by simpa using hi), List.getElem?_map, Int.toNat_natCast, List.getElem?_eq_getElem hi]
      rfl
  · obtain ⟨en, kvs, er, ek⟩ := E.none hx
    unfold den at hf ⊢
    simp only [en] at hf ⊢
    obtain ⟨S', e, f, R'⟩ := touched_read n ap R hf hx
    refine ⟨S', ?_, f, R'⟩
    have e2 := touch_sem n R e
    refine run_rt ?_
    unfold b_m_Run_at_shelf
    have e0 := eGet2 (ε := List.map some [D.ref L.run, .tup [.str "read", .str x], .ref r] ++ List.replicate (5 - 3) none) (a := dVar 2) (k := dBin oGet (dVar 1) (dC (.int 1))) (x := dBin oGet (dVar 1) (dC (.int 1))) zV (zG zV) (zG zV) er rfl
    rw [ek] at e0
    refine eLet e0 ?_
    refine eTake (eZB (zEqS (zG zV))) (eRet (eCond (eTest (eIsi (eZ zV) isi_s)) ?_))
    rw [if_pos rfl]
    exact eMeth (eZ zV) R.run rfl (eCons (eTup (eCons (eZ zC) (eCons (eZ zV) eNil))) eNil) e2
end
end DL

set_option Elab.async false
set_option linter.all false
set_option maxRecDepth 100000
set_option maxHeartbeats 1000000
namespace DL
open PySem L2
section
variable {L : Pl} {S S0 : Sto} {st : Stt} {ε : Env} {c r m n b M : Nat} {env : Ev} {K : List Str} {x : Str} {t : Thk} {p : D} {rs : List RS}
theorem ePutL {a b kk : Den} {d : D} {ds : List D} {i k : Nat} {S1 : Sto} (hv : a ε S = .ok d S1) (ho : b ε S1 = .ok (.ref k) S1) (hk : kk ε S1 = .ok (.int (i : Int)) S1) (hn : S1[k]? = some (.lst ds)) (hi : i < ds.length) : sPut b kk a ε S = .ok (.nx ε) (S1.set k (.lst (ds.set i d))) := by
  unfold sPut
  rw [hv, x_sE, ho, x_sE, hk, x_sE]
  simp only [dctAt, lstAt, hn]
  have : ixN ds.length (i : Int) = some i := by
    unfold ixN
    rw [if_pos (by omega), if_pos (by omega), Int.toNat_natCast]
  simp only [this]
theorem impl_wr {a : Deed} (ap : Apart L) (E : EnvOk L S0 c r m b env K) (ge : GrowE env) (gr : GrowR rs) (I : Impl L S0 c (den rs a env) (enc a) r M) (hM : 4 ≤ M) (ho : (x ∈ K ∧ kd x = 2) ∨ x ∈ abcd) : Impl L S0 c (den rs (.wr x a) env) (enc (.wr x a)) r (M + 2) := by
  intro n hn S st F R hc hf
  obtain ⟨n, rfl⟩ : ∃ k, n = k + 5 := ⟨n - 5, by omega⟩
  have g := den_grow gr a ge st
  have E' := E.up F (Nat.le_refl _)
  rw [cs_m_Run_worth]
  have wo : ∀ {v : Int} {S' : Sto}, csem (n + 4) .m_Run_at_shelf [.ref L.run, enc (.wr x a), .ref r] S = .ok (.int v) S' → runFn 3 6 (b_m_Run_worth (csem (n + 4)) (csem (n + 3))) [D.ref L.run, enc (.wr x a), .ref r] S = .ok (.int v) S' := fun {v S'} h => by
    refine run_rt ?_
    unfold b_m_Run_worth
    refine eLet (eZ (zG zV)) ?_
    exact eSkip (eZB (zEqS zV)) (eSkip (eZB (zEqS zV)) (eTake (eZB (zIn (qs := ["read", "write"]) zV (fun _ => rfl))) (eRet (eMeth (eZ zV) R.run rfl (eCons (eZ zV) (eCons (eZ zV) eNil)) h))))
  rcases ho with ⟨hk, k2⟩ | hx
  · obtain ⟨v, kvs, ev, er, ok⟩ := E'.get hk
    cases v with
    | int v => have := ok.2; omega
    | th t => have := ok.2; omega
    | cell i =>
      unfold den at hf ⊢
      simp only [ev] at hf ⊢
      have hfa : Fits (den rs a env st).2 := ⟨hf.m, hf.s, by have := hf.c; simpa [Stt.setC] using this⟩
      have hi : i < (den rs a env st).2.cells.length := by have := ok.2.2; have := g.c; omega
      have e0 := eGet2 (ε := List.map some [D.ref L.run, enc (.wr x a), .ref r] ++ List.replicate (5 - 3) none) (a := dVar 2) (k := dBin oGet (dVar 1) (dC (.int 1))) (x := dBin oGet (dVar 1) (dC (.int 1))) zV (zG zV) (zG zV) er rfl
      rw [ok.1] at e0
      obtain ⟨S', e, f, R'⟩ := eW (ε := [some (D.ref L.run), some (enc (.wr x a)), some (.ref r), some (.int (i : Int)), none]) (a := dBin oGet (dVar 1) (dC (.int 2))) (bb := dVar 2) (n := n + 3) I (by omega) F R hc hfa rfl (zG zV) zV
      refine ⟨S'.set L.cells (.lst (((den rs a env st).2.cells.set i (den rs a env st).1).map .int)), wo ?_, f.trans (Frm.set (by simp [Pl.mut])), R'.setCells ap.nes _⟩
      rw [cs_m_Run_at_shelf]
      refine run_rt ?_
      unfold b_m_Run_at_shelf
      refine eLet e0 ?_
      refine eSkip (eZB (zEqS (zG zV))) ?_
      refine eLet e ?_
      refine eSkip (eTest (eIsi (eZ zV) isi_i)) ?_
      have := ePutL (ε := [some (D.ref L.run), some (enc (.wr x a)), some (.ref r), some (.int (i : Int)), some (.int (den rs a env st).1)]) (a := dVar 4) (b := dFld "cells" (dVar 0)) (kk := dVar 3) (S := S') (eZ zV) (eFld (eZ zV) R'.run rfl) (eZ zV) R'.cells (by simpa using hi)
      rw [← List.map_set] at this
      exact eSeq this (eRet (eZ zV))
  · obtain ⟨en, kvs, er, ek⟩ := E'.none hx
    unfold den at hf ⊢
    simp only [en] at hf ⊢
    have hfa : Fits (den rs a env st).2 := Fits.of (grow_wrt x _ _) hf
    have e0 := eGet2 (ε := List.map some [D.ref L.run, enc (.wr x a), .ref r] ++ List.replicate (5 - 3) none) (a := dVar 2) (k := dBin oGet (dVar 1) (dC (.int 1))) (x := dBin oGet (dVar 1) (dC (.int 1))) zV (zG zV) (zG zV) er rfl
    rw [ek] at e0
    obtain ⟨S', e, f, R'⟩ := eW (ε := [some (D.ref L.run), some (enc (.wr x a)), some (.ref r), some (.str x), none]) (a := dBin oGet (dVar 1) (dC (.int 2))) (bb := dVar 2) (n := n + 3) I (by omega) F R hc hfa rfl (zG zV) zV
    obtain ⟨S2, e2, f2, R2⟩ := touched_write n (x := x) (v := (den rs a env st).1) ap R' hf hx
    have e3 := touch_sem n R' e2
    refine ⟨S2, wo ?_, f.trans f2, R2⟩
    rw [cs_m_Run_at_shelf]
    refine run_rt ?_
    unfold b_m_Run_at_shelf
    refine eLet e0 ?_
    refine eSkip (eZB (zEqS (zG zV))) ?_
    refine eLet e ?_
    exact eTake (eTest (eIsi (eZ zV) isi_s)) (eRet (eMeth (eZ zV) R'.run rfl (eCons (eTup (eCons (eZ zC) (eCons (eZ zV) (eCons (eZ zV) eNil)))) eNil) e3))
/-! ### leaves -/
theorem impl_num {i : Int} : Impl L S0 c (den rs (.num i) env) (enc (.num i)) r 2 := by
  intro n hn S st F R hc hf
  obtain ⟨n, rfl⟩ : ∃ k, n = k + 2 := ⟨n - 2, by omega⟩
  unfold den
  refine ⟨S, ?_, Frm.refl, R⟩
  rw [cs_m_Run_worth]
  refine run_rt ?_
  unfold b_m_Run_worth
  refine eLet (eZ (zG zV)) ?_
  exact eTake (eZB (zEqS zV)) (eRet (eZ (zG zV)))
theorem impl_nam (E : EnvOk L S0 c r m b env K) (hk : x ∈ K) (k1 : kd x = 1) : Impl L S0 c (den rs (.nam x) env) (enc (.nam x)) r 2 := by
  intro n hn S st F R hc hf
  obtain ⟨n, rfl⟩ : ∃ k, n = k + 2 := ⟨n - 2, by omega⟩
  obtain ⟨v, kvs, ev, er, ok⟩ := (E.up F (Nat.le_refl _)).get hk
  cases v with
  | cell i => have := ok.2.1; omega
  | th t => have := ok.2; omega
  | int v =>
    unfold den
    simp only [ev]
    refine ⟨S, ?_, Frm.refl, R⟩
    rw [cs_m_Run_worth]
    refine run_rt ?_
    unfold b_m_Run_worth
    refine eLet (eZ (zG zV)) ?_
    exact eSkip (eZB (zEqS zV)) (eTake (eZB (zEqS zV)) (eRet (eBin (eZ zV) (eZ (zG zV)) (eGetD er rfl ok.1))))
theorem impl_dod (E : EnvOk L S0 c r m b env K) (hk : x ∈ K) (k3 : kd x = 3) : Impl L S0 c (den rs (.dod x) env) (enc (.dod x)) r (m + 2) := by
  intro n hn S st F R hc hf
  obtain ⟨n, rfl⟩ : ∃ k, n = k + 2 := ⟨n - 2, by omega⟩
  obtain ⟨v, kvs, ev, er, ok⟩ := (E.up F (Nat.le_refl _)).get hk
  cases v with
  | cell i => have := ok.2.1; omega
  | int v => have := ok.2; omega
  | th t =>
    obtain ⟨⟨p, r', eo, I⟩, _⟩ := ok
    unfold den at hf ⊢
    simp only [ev] at hf ⊢
    obtain ⟨S', e, f, R'⟩ := eW (ε := [some (D.ref L.run), some (enc (.dod x)), some (.ref r), some (.str "do"), some p, some (.ref r')]) (a := dVar 4) (bb := dVar 5) (n := n + 1) I (by omega) Frm.refl R hc hf rfl zV zV
    refine ⟨S', ?_, f, R'⟩
    rw [cs_m_Run_worth]
    refine run_rt ?_
    unfold b_m_Run_worth
    refine eLet (eZ (zG zV)) ?_
    refine eSkip (eZB (zEqS zV)) (eSkip (eZB (zEqS zV)) (eSkip (eZB (zIn (qs := ["read", "write"]) zV (fun _ => rfl))) (eSkip (eZB (zEqS zV)) (eSkip (eZB (zEqS zV)) (eTake (eZB (zEqS zV)) ?_)))))
    refine eLet (eBin (eZ zV) (eZ (zG zV)) (eGetD er rfl eo)) ?_
    exact eRet e
theorem impl_ask (ap : Apart L) : Impl L S0 c (den rs .ask env) (enc .ask) r 4 := by
  intro n hn S st F R hc hf
  obtain ⟨n, rfl⟩ : ∃ k, n = k + 4 := ⟨n - 4, by omega⟩
  unfold den at hf ⊢
  obtain ⟨S', e, f, R'⟩ := touched_ask n ap R hf
  have e3 := touch_sem n R e
  refine ⟨S', ?_, f, R'⟩
  rw [cs_m_Run_worth]
  refine run_rt ?_
  unfold b_m_Run_worth
  refine eLet (eZ (zG zV)) ?_
  exact eSkip (eZB (zEqS zV)) (eSkip (eZB (zEqS zV)) (eSkip (eZB (zIn (qs := ["read", "write"]) zV (fun _ => rfl))) (eTake (eZB (zEqS zV)) (eRet (eMeth (eZ zV) R.run rfl (eCons (eTup (eCons (eZ zC) eNil)) eNil) e3)))))
theorem den_rd (rs : List RS) : den rs (.rd x) env = den [] (.rd x) env := by unfold den; rfl
theorem impl_rd (ap : Apart L) (E : EnvOk L S0 c r m b env K) (ho : (x ∈ K ∧ kd x = 2) ∨ x ∈ abcd) : Impl L S0 c (den rs (.rd x) env) (enc (.rd x)) r 5 := by
  intro n hn S st F R hc hf
  obtain ⟨n, rfl⟩ : ∃ k, n = k + 5 := ⟨n - 5, by omega⟩
  rw [den_rd] at hf ⊢
  obtain ⟨S', e, f, R'⟩ := shelf_read (n := n) ap (E.up F (Nat.le_refl _)) R hc hf ho
  refine ⟨S', ?_, f, R'⟩
  rw [cs_m_Run_worth]
  refine run_rt ?_
  unfold b_m_Run_worth
  refine eLet (eZ (zG zV)) ?_
  exact eSkip (eZB (zEqS zV)) (eSkip (eZB (zEqS zV)) (eTake (eZB (zIn (qs := ["read", "write"]) zV (fun _ => rfl))) (eRet (eMeth (eZ zV) R.run rfl (eCons (eZ zV) (eCons (eZ zV) eNil)) e))))
theorem impl_say {a : Deed} (ap : Apart L) (I : Impl L S0 c (den rs a env) (enc a) r M) (hM : 4 ≤ M) : Impl L S0 c (den rs (.say a) env) (enc (.say a)) r (M + 2) := by
  intro n hn S st F R hc hf
  obtain ⟨n, rfl⟩ : ∃ k, n = k + 5 := ⟨n - 5, by omega⟩
  unfold den at hf ⊢
  have hfa : Fits (den rs a env st).2 := Fits.of (grow_say _ _) hf
  obtain ⟨S', e, f, R'⟩ := eW (ε := [some (D.ref L.run), some (enc (.say a)), some (.ref r), some (.str "say"), none, none]) (a := dBin oGet (dVar 1) (dC (.int 1))) (bb := dVar 2) (n := n + 4) I (by omega) F R hc hfa rfl (zG zV) zV
  obtain ⟨S2, e2, f2, R2⟩ := touched_say (n + 1) (v := (den rs a env st).1) ap R' hf
  have e3 := touch_sem (n + 1) R' e2
  refine ⟨S2, ?_, f.trans f2, R2⟩
  rw [cs_m_Run_worth]
  refine run_rt ?_
  unfold b_m_Run_worth
  refine eLet (eZ (zG zV)) ?_
  exact eSkip (eZB (zEqS zV)) (eSkip (eZB (zEqS zV)) (eSkip (eZB (zIn (qs := ["read", "write"]) zV (fun _ => rfl))) (eSkip (eZB (zEqS zV)) (eTake (eZB (zEqS zV)) (eRet (eMeth (eZ zV) R.run rfl (eCons (eTup (eCons (eZ zC) (eCons e eNil))) eNil) e3))))))
end
end DL

set_option Elab.async false
set_option linter.all false
set_option maxRecDepth 100000
set_option maxHeartbeats 1000000
namespace DL
open PySem L2
section
variable {L : Pl} {S S0 : Sto} {st : Stt} {ε : Env} {c r m n b M : Nat} {env : Ev} {K : List Str} {x : Str} {t : Thk} {p : D} {rs : List RS}
/-- worth goes to put_together -/
theorem worth_put {wd : Str} {ds : List D} {v : Int} {S' : Sto} (R : Rep L S st) (hw : wd ∈ (["if", "then", "add", "less", "loop"] : List Str)) (h : csem (n + 1) .m_Run_put_together [.ref L.run, .tup (.str wd :: ds), .ref r] S = .ok (.int v) S') :
    csem (n + 2) .m_Run_worth [.ref L.run, .tup (.str wd :: ds), .ref r] S = .ok (.int v) S' := by
  rw [cs_m_Run_worth]
  refine run_rt ?_
  unfold b_m_Run_worth
  refine eLet (eZ (zG zV atI_0)) ?_
  simp only [List.mem_cons, List.not_mem_nil, or_false] at hw
  rcases hw with rfl | rfl | rfl | rfl | rfl
  all_goals exact eSkip (eZB (zEqS zV)) (eSkip (eZB (zEqS zV)) (eSkip (eZB (zIn (qs := ["read", "write"]) zV (fun _ => rfl))) (eSkip (eZB (zEqS zV)) (eSkip (eZB (zEqS zV)) (eSkip (eZB (zEqS zV)) (eSkip (eZB (zIn (qs := ["call", "let", "own"]) zV (fun _ => rfl))) (eRet (eMeth (eZ zV) R.run rfl (eCons (eZ zV) (eCons (eZ zV) eNil)) h))))))))
theorem impl_iff {a b c' : Deed} (ge : GrowE env) (gr : GrowR rs) (Ia : Impl L S0 c (den rs a env) (enc a) r M) (Ib : Impl L S0 c (den rs b env) (enc b) r M) (Ic : Impl L S0 c (den rs c' env) (enc c') r M) (hM : 1 ≤ M) : Impl L S0 c (den rs (.iff a b c') env) (enc (.iff a b c')) r (M + 2) := by
  intro n hn S st F R hc hf
  obtain ⟨n, rfl⟩ : ∃ k, n = k + 2 := ⟨n - 2, by omega⟩
  have ga := den_grow gr a ge st
  obtain ⟨n, rfl⟩ : ∃ k, n = k + 1 := ⟨n - 1, by omega⟩
  unfold den at hf ⊢
  have hfa : Fits (den rs a env st).2 := by
    split at hf
    · exact Fits.of (den_grow gr b ge _) hf
    · exact Fits.of (den_grow gr c' ge _) hf
  obtain ⟨S', e, f, R'⟩ := eW (ε := [some (D.ref L.run), some (enc (.iff a b c')), some (.ref r), some (.str "if"), none, none, none]) (a := dBin oGet (dVar 1) (dC (.int 1))) (bb := dVar 2) (n := n + 1) Ia (by omega) F R hc hfa rfl (zG zV) zV
  have hc' : c ≤ (den rs a env st).2.cells.length := Nat.le_trans hc ga.c
  by_cases hv : (den rs a env st).1 ≠ 0
  · rw [if_pos hv] at hf ⊢
    obtain ⟨S2, e2, f2, R2⟩ := Ib (n + 1) (by omega) S' _ (F.trans f) R' hc' hf
    refine ⟨S2, worth_put R (by simp) ?_, f.trans f2, R2⟩
    rw [cs_m_Run_put_together]
    refine run_rt ?_
    unfold b_m_Run_put_together
    refine eLet (eZ (zG zV)) ?_
    refine eLet e ?_
    refine eTake (eZB (zEqS zV)) (eRet (eMeth (eZ zV) R'.run rfl (eCons (d := enc b) (eCond (eTest (eBin (eZ zV) (eZ zC) x_neI)) ?_) (eCons (eZ zV) eNil)) e2))
    rw [if_pos (by simpa using hv)]
    exact eZ (zG zV)
  · rw [if_neg hv] at hf ⊢
    obtain ⟨S2, e2, f2, R2⟩ := Ic (n + 1) (by omega) S' _ (F.trans f) R' hc' hf
    refine ⟨S2, worth_put R (by simp) ?_, f.trans f2, R2⟩
    rw [cs_m_Run_put_together]
    refine run_rt ?_
    unfold b_m_Run_put_together
    refine eLet (eZ (zG zV)) ?_
    refine eLet e ?_
    refine eTake (eZB (zEqS zV)) (eRet (eMeth (eZ zV) R'.run rfl (eCons (d := enc c') (eCond (eTest (eBin (eZ zV) (eZ zC) x_neI)) ?_) (eCons (eZ zV) eNil)) e2))
    rw [if_neg (by simpa using hv)]
    exact eZ (zG zV)
/-- the loop's turns -/
theorem turns {a : Den} {m jv : Nat} (ge : GrowE env) (gr : GrowR rs) {bd : Deed} (Ib : Impl L S0 c (den rs bd env) (enc bd) r M) (hn : M ≤ n) (h0 : ε[0]? = some (some (.ref L.run))) (hj : jv ≠ 0) (ha : ∀ v, ZE a (ε.set jv v) (enc bd)) {bb : Den} (hb : ∀ v, ZE bb (ε.set jv v) (.ref r)) :
    ∀ (k i : Nat) (v : Option D) (S : Sto) (st : Stt), i + k = m → Frm L S0 S → Rep L S st → c ≤ st.cells.length → Fits (iterT (den rs bd env) k st) →
      ∃ S' v', forI (fun _ => some (nums 0 m)) (gN jv) (sExpr (dMeth "Run" "worth" 3 (csem n .m_Run_worth) (dVar 0) (dCons a (dCons bb dNil)))) (k + 1) i (ε.set jv v) S = .ok (.nx (ε.set jv v')) S' ∧ Frm L S S' ∧ Rep L S' (iterT (den rs bd env) k st)
  | 0, i, v, S, st, hi, F, R, hc, hf => by
    refine ⟨S, v, ?_, Frm.refl, R⟩
    unfold forI
    simp only [nums_get, if_neg (show ¬ i < m by omega)]
  | k + 1, i, v, S, st, hi, F, R, hc, hf => by
    unfold iterT at hf ⊢
    have g := den_grow gr bd ge st
    have hfa : Fits (den rs bd env st).2 := Fits.of (grow_iter (den_grow gr bd ge) k _) hf
    obtain ⟨S1, e1, f1, R1⟩ := eW (ε := ε.set jv (some (.int (i : Int)))) (a := a) (bb := bb) Ib hn F R hc hfa (by rw [List.getElem?_set_ne hj]; exact h0) (ha _) (hb _)
    obtain ⟨S2, v2, e2, f2, R2⟩ := turns (m := m) ge gr Ib hn h0 hj ha hb k (i + 1) (some (.int (i : Int))) S1 _ (by omega) (F.trans f1) R1 (Nat.le_trans hc g.c) hf
    refine ⟨S2, v2, ?_, f1.trans f2, R2⟩
    unfold forI
    simp only [nums_get, if_pos (show i < m by omega), x_gN, List.set_set, eExpr e1]
    exact e2
theorem impl_two {w : Two} {a b : Deed} (ge : GrowE env) (gr : GrowR rs) (Ia : Impl L S0 c (den rs a env) (enc a) r M) (Ib : Impl L S0 c (den rs b env) (enc b) r M) (hM : 1 ≤ M) : Impl L S0 c (den rs (.two w a b) env) (enc (.two w a b)) r (M + 2) := by
  intro n hn S st F R hc hf
  obtain ⟨n, rfl⟩ : ∃ k, n = k + 3 := ⟨n - 3, by omega⟩
  have ga := den_grow gr a ge st
  have gb := den_grow gr b ge (den rs a env st).2
  have hc' : c ≤ (den rs a env st).2.cells.length := Nat.le_trans hc ga.c
  have two_steps : Fits (den rs b env (den rs a env st).2).2 → ∃ S' S2, (∀ {wd : Str}, dMeth "Run" "worth" 3 (csem (n + 1) .m_Run_worth) (dVar 0) (dCons (dBin oGet (dVar 1) (dC (.int 1))) (dCons (dVar 2) dNil)) [some (D.ref L.run), some (.tup [.str wd, enc a, enc b]), some (.ref r), some (.str wd), none, none, none] S = .ok (.int (den rs a env st).1) S') ∧
      (∀ {wd : Str}, dMeth "Run" "worth" 3 (csem (n + 1) .m_Run_worth) (dVar 0) (dCons (dBin oGet (dVar 1) (dC (.int 2))) (dCons (dVar 2) dNil)) [some (D.ref L.run), some (.tup [.str wd, enc a, enc b]), some (.ref r), some (.str wd), some (.int (den rs a env st).1), none, none] S' = .ok (.int (den rs b env (den rs a env st).2).1) S2) ∧ Frm L S S2 ∧ Rep L S2 (den rs b env (den rs a env st).2).2 := fun hfb => by
    obtain ⟨S', e, f, R'⟩ := Ia (n + 1) (by omega) S st F R hc (Fits.of gb hfb)
    obtain ⟨S2, e2, f2, R2⟩ := Ib (n + 1) (by omega) S' _ (F.trans f) R' hc' hfb
    exact ⟨S', S2, eMeth (eZ zV) R.run rfl (eCons (eZ (zG zV)) (eCons (eZ zV) eNil)) e, eMeth (eZ zV) R'.run rfl (eCons (eZ (zG zV)) (eCons (eZ zV) eNil)) e2, f.trans f2, R2⟩
  cases w with
  | thn =>
    unfold den at hf ⊢
    obtain ⟨S', S2, e, e2, f2, R2⟩ := two_steps hf
    refine ⟨S2, worth_put R (by simp [Two.w]) ?_, f2, R2⟩
    rw [cs_m_Run_put_together]
    refine run_rt ?_
    unfold b_m_Run_put_together
    refine eLet (eZ (zG zV)) ?_
    refine eLet e ?_
    refine eSkip (eZB (zEqS zV (by decide +kernel))) (eSkip (eZB (zEqS zV (by decide +kernel))) ?_)
    refine eLet e2 ?_
    exact eTake (eZB (zEqS zV (by decide +kernel))) (eRet (eZ zV))
  | add =>
    unfold den at hf ⊢
    obtain ⟨S', S2, e, e2, f2, R2⟩ := two_steps hf
    refine ⟨S2, worth_put R (by simp [Two.w]) ?_, f2, R2⟩
    rw [cs_m_Run_put_together]
    refine run_rt ?_
    unfold b_m_Run_put_together
    refine eLet (eZ (zG zV)) ?_
    refine eLet e ?_
    refine eSkip (eZB (zEqS zV (by decide +kernel))) (eSkip (eZB (zEqS zV (by decide +kernel))) ?_)
    refine eLet e2 ?_
    refine eSkip (eZB (zEqS zV (by decide +kernel))) (eRet (eCond (eZB (zEqS (t := true) zV (by decide +kernel))) ?_))
    rw [if_pos rfl]
    refine eBin (eBin (eZ zV) (eZ zV) x_addI) (eZ zC) ?_
    rw [x_modI, if_pos (by decide)]
  | les =>
    unfold den at hf ⊢
    obtain ⟨S', S2, e, e2, f2, R2⟩ := two_steps hf
    refine ⟨S2, worth_put R (by simp [Two.w]) ?_, f2, R2⟩
    rw [cs_m_Run_put_together]
    refine run_rt ?_
    unfold b_m_Run_put_together
    refine eLet (eZ (zG zV)) ?_
    refine eLet e ?_
    refine eSkip (eZB (zEqS zV (by decide +kernel))) (eSkip (eZB (zEqS zV (by decide +kernel))) ?_)
    refine eLet e2 ?_
    refine eSkip (eZB (zEqS zV (by decide +kernel))) (eRet (eCond (eZB (zEqS (t := false) zV (by decide +kernel))) ?_))
    rw [if_neg Bool.false_ne_true]
    refine eFn (eCons (eBin (eZ zV) (eZ zV) x_ltI) eNil) ?_
    unfold fInt
    simp only [decide_eq_true_eq]
  | lop =>
    unfold den at hf ⊢
    have hfa : Fits (den rs a env st).2 := Fits.of (grow_iter (den_grow gr b ge) _ _) hf
    obtain ⟨S', e, f, R'⟩ := Ia (n + 1) (by omega) S st F R hc hfa
    have h0 := Int.emod_nonneg (den rs a env st).1 (show (4 : Int) ≠ 0 by decide)
    have h1 := Int.emod_lt_of_pos (den rs a env st).1 (show (0 : Int) < 4 by decide)
    obtain ⟨S2, v2, e2, f2, R2⟩ := turns (n := n + 1) (ε := [some (D.ref L.run), some (enc (.two .lop a b)), some (.ref r), some (.str "loop"), some (.int (den rs a env st).1), none, none]) (m := ((den rs a env st).1 % 4).toNat) (jv := 5) (a := dBin oGet (dVar 1) (dC (.int 2))) (bb := dVar 2) ge gr Ib (by omega) rfl (by decide) (fun v => zG zV) (fun v => zV) _ 0 none S' _ (by omega) (F.trans f) R' hc' hf
    refine ⟨S2, worth_put R (by simp [Two.w]) ?_, f.trans f2, R2⟩
    rw [cs_m_Run_put_together]
    refine run_rt ?_
    unfold b_m_Run_put_together
    refine eLet (eZ (zG zV)) ?_
    refine eLet (eMeth (eZ zV) R.run rfl (eCons (eZ (zG zV)) (eCons (eZ zV) eNil)) e) ?_
    have it := iRange1_of (a := dBin oMod (dVar 4) (dC (.int 4))) (ε := [some (D.ref L.run), some (enc (.two .lop a b)), some (.ref r), some (.str "loop"), some (.int (den rs a env st).1), none, none]) (S := S') (S' := S') (j := (den rs a env st).1 % 4) (okR_of h0 (by omega)) (eBin (eZ zV) (eZ zC) (by rw [x_modI, if_pos (by decide)]))
    refine eSkip (eZB (zEqS zV (by decide +kernel))) (eTake (eZB (zEqS zV (by decide +kernel))) (eSeq (sFor_of it e2) (eRet (eZ zC))))
end
end DL

set_option Elab.async false
set_option linter.all false
set_option maxRecDepth 100000
set_option maxHeartbeats 1000000
namespace DL
open PySem L2
section
variable {L : Pl} {S S0 : Sto} {st : Stt} {ε : Env} {c r m n b M : Nat} {env : Ev} {K : List Str} {x : Str} {t : Thk} {p : D} {rs : List RS}
theorem worth_with {wd : Str} {ds : List D} {v : Int} {S' : Sto} (R : Rep L S st) (hw : wd ∈ (["call", "let", "own"] : List Str)) (h : csem (n + 1) .m_Run_with_names [.ref L.run, .tup (.str wd :: ds), .ref r] S = .ok (.int v) S') :
    csem (n + 2) .m_Run_worth [.ref L.run, .tup (.str wd :: ds), .ref r] S = .ok (.int v) S' := by
  rw [cs_m_Run_worth]
  refine run_rt ?_
  unfold b_m_Run_worth
  refine eLet (eZ (zG zV atI_0)) ?_
  simp only [List.mem_cons, List.not_mem_nil, or_false] at hw
  rcases hw with rfl | rfl | rfl
  all_goals exact eSkip (eZB (zEqS zV)) (eSkip (eZB (zEqS zV)) (eSkip (eZB (zIn (qs := ["read", "write"]) zV (fun _ => rfl))) (eSkip (eZB (zEqS zV)) (eSkip (eZB (zEqS zV)) (eSkip (eZB (zEqS zV)) (eTake (eZB (zIn (qs := ["call", "let", "own"]) zV (fun _ => rfl))) (eRet (eMeth (eZ zV) R.run rfl (eCons (eZ zV) (eCons (eZ zV) eNil)) h))))))))
theorem fDict_copy {kvs : List (Key × D)} (h : S[r]? = some (.dct kvs)) : fDict [.ref r] S = .ok (.ref S.length) (S ++ [.dct kvs]) := by
  unfold fDict
  simp only [dctAt, h]
theorem put_last {E : Sto} {o o' : O} : (S ++ [o]).set S.length o' = S ++ [o'] := by simp
theorem EvOk.mono {v : EV} {o : Option D} {m' c' : Nat} {S' : Sto} (h : EvOk L S c m x v o) (f : Frm L S S') (hc : c ≤ c') (hm : m ≤ m') : EvOk L S' c' m' x v o := by
  cases v with
  | int v => exact h
  | cell i => exact ⟨h.1, h.2.1, Nat.lt_of_lt_of_le h.2.2 hc⟩
  | th t =>
    obtain ⟨⟨p, r, e, i⟩, k⟩ := h
    exact ⟨⟨p, r, e, i.up f hc hm⟩, k⟩
/-- one more is bound, in a copy -/
theorem EnvOk.put (E : EnvOk L S c r m b env K) {S' : Sto} (f : Frm L S S') (R : Rep L S' st) {kvs : List (Key × D)} (hk : S[r]? = some (.dct kvs)) {c' : Nat} (hc : c ≤ c') {kvs' : List (Key × D)} (hl : kvs'.length ≤ b + 1) (hv : ∀ y, valD kvs' (.inr y) = if y = x then some p else valD kvs (.inr y)) {v : EV} (hx : EvOk L (S' ++ [.dct kvs']) c' m x v (some p)) :
    EnvOk L (S' ++ [.dct kvs']) c' S'.length m (b + 1) (putE x v env) (x :: K) := by
  obtain ⟨⟨kvs0, e, hlen, q⟩, hr, hK⟩ := E
  rw [hk] at e
  cases e
  refine ⟨⟨kvs', by simp, hl, fun y => ?_⟩, fun h => Nat.lt_irrefl _ (R.lt _ h), fun y hy => ?_⟩
  · have := q y
    rw [hv y]
    unfold putE
    by_cases e : y = x
    · subst e
      simp only [if_true]
      exact hx
    · simp only [e, if_false]
      cases h : env y with
      | none => rw [h] at this; exact this
      | some w => rw [h] at this; exact this.mono (f.trans Frm.app) hc (Nat.le_refl _)
  · unfold putE
    rcases List.mem_cons.mp hy with e | e
    · rw [if_pos e]; simp
    · split
      · simp
      · exact hK y e
theorem big2 {n b : Nat} (h : n ≤ b) (hb : b ≤ 1000) : n < big := Nat.lt_of_le_of_lt (Nat.le_trans h hb) (by decide)
theorem impl_lt {a bd : Deed} (E : EnvOk L S0 c r m b env K) (hb : b < 1000) (ge : GrowE env) (gr : GrowR rs) (k1 : kd x = 1) (Ia : Impl L S0 c (den rs a env) (enc a) r M)
    (Ib : ∀ (v : Int) S1 r1 c1, EnvOk L S1 c1 r1 m (b + 1) (putE x (.int v) env) (x :: K) → Impl L S1 c1 (den rs bd (putE x (.int v) env)) (enc bd) r1 M) (hM : 1 ≤ M) : Impl L S0 c (den rs (.lt x a bd) env) (enc (.lt x a bd)) r (M + 2) := by
  intro n hn S st F R hc hf
  obtain ⟨n, rfl⟩ : ∃ k, n = k + 3 := ⟨n - 3, by omega⟩
  have ga := den_grow gr a ge st
  unfold den at hf ⊢
  have hfa : Fits (den rs a env st).2 := Fits.of (den_grow gr bd (ge.put fun t e => by cases e) _) hf
  obtain ⟨S', e, f, R'⟩ := Ia (n + 1) (by omega) S st F R hc hfa
  have E' := E.up (F.trans f) (Nat.le_refl _)
  obtain ⟨kvs, ek, el, _⟩ := E'.d
  have E2 := E'.put (x := x) (p := .int (den rs a env st).1) Frm.refl R' ek (Nat.le_refl _) (kvs' := putD kvs (.inr x) (.int (den rs a env st).1)) (Nat.le_trans (putD_len _ _ _) (by omega)) (fun y => by
    rw [valD_put]
    simp only [Sum.inr.injEq]) (v := .int (den rs a env st).1) ⟨rfl, k1⟩
  obtain ⟨S2, e2, f2, R2⟩ := Ib _ _ _ _ E2 (n + 1) (by omega) _ _ Frm.refl (R'.app _) (Nat.le_trans hc ga.c) hf
  refine ⟨S2, worth_with R (by simp) ?_, f.trans (Frm.app.trans f2), R2⟩
  rw [cs_m_Run_with_names]
  refine run_rt ?_
  unfold b_m_Run_with_names
  refine eSkip (eZB (zEqS (zG zV))) ?_
  refine eLet (eMeth (eZ zV) R.run rfl (eCons (eZ (zG zV)) (eCons (eZ zV) eNil)) e) ?_
  refine eLet (eFn (eCons (eZ zV) eNil) (fDict_copy ek)) ?_
  have pt := ePutD (ε := [some (D.ref L.run), some (enc (.lt x a bd)), some (.ref r), none, none, none, some (.ref S'.length), some (.int (den rs a env st).1), none, none]) (a := dVar 7) (b := dVar 6) (kk := dBin oGet (dVar 1) (dC (.int 1))) (S := S' ++ [O.dct kvs]) (eZ zV) (eZ zV) (eZ (zG zV)) getLast_app rfl (big2 el (by omega))
  rw [put_last (E := S)] at pt
  refine eSeq pt ?_
  refine eSkip (eZB (zEqS (zG zV))) (eRet (eMeth (eZ zV) (R'.app _).run rfl (eCons (eZ (zG zV)) (eCons (eZ zV) eNil)) e2))
theorem impl_own {a bd : Deed} (ap : Apart L) (E : EnvOk L S0 c r m b env K) (hb : b < 1000) (ge : GrowE env) (gr : GrowR rs) (k2 : kd x = 2) (Ia : Impl L S0 c (den rs a env) (enc a) r M)
    (Ib : ∀ (i : Nat) S1 r1 c1, EnvOk L S1 c1 r1 m (b + 1) (putE x (.cell i) env) (x :: K) → Impl L S1 c1 (den rs bd (putE x (.cell i) env)) (enc bd) r1 M) (hM : 1 ≤ M) : Impl L S0 c (den rs (.own x a bd) env) (enc (.own x a bd)) r (M + 2) := by
  intro n hn S st F R hc hf
  obtain ⟨n, rfl⟩ : ∃ k, n = k + 3 := ⟨n - 3, by omega⟩
  have ga := den_grow gr a ge st
  unfold den at hf ⊢
  have gp : Lst (den rs a env st).2 ((den rs a env st).2.push (den rs a env st).1) := ⟨Nat.le_refl _, Nat.le_refl _, by simp [Stt.push]⟩
  have hfp : Fits ((den rs a env st).2.push (den rs a env st).1) := Fits.of (den_grow gr bd (ge.put fun t e => by cases e) _) hf
  have hfa : Fits (den rs a env st).2 := Fits.of gp hfp
  obtain ⟨S', e, f, R'⟩ := Ia (n + 1) (by omega) S st F R hc hfa
  have E' := E.up (F.trans f) (Nat.le_refl _)
  obtain ⟨kvs, ek, el, _⟩ := E'.d
  -- the store with the cell, then the dict
  let kvs1 := putD kvs (.inr x) (.int (den rs a env st).1)
  let kvs2 := putD kvs1 (.inr x) (.int ((den rs a env st).2.cells.length : Int))
  let S1 := S'.set L.cells (.lst (((den rs a env st).2.cells ++ [(den rs a env st).1]).map .int))
  have R1 : Rep L S1 ((den rs a env st).2.push (den rs a env st).1) := R'.setCells ap.nes _
  have f1 : Frm L S' S1 := Frm.set (by simp [Pl.mut])
  have hlen : S1.length = S'.length := by simp [S1]
  have ek1 : S1[r]? = some (.dct kvs) := f1.keep _ _ E'.r ek
  have E2 := (E'.up f1 (Nat.le_refl _)).put (x := x) (p := .int ((den rs a env st).2.cells.length : Int)) Frm.refl R1 ek1 (c' := (den rs a env st).2.cells.length + 1) (by have := ga.c; omega) (kvs' := kvs2) (by
    have h1 : kvs1.length ≤ kvs.length + 1 := putD_len (.inr x) (.int (den rs a env st).1) kvs
    have h2 : kvs2.length = kvs1.length := by
      have : (kvs1.any fun kv => decide (kv.1 = .inr x)) = true := by
        have hv : valD kvs1 (.inr x) = some (.int (den rs a env st).1) := by rw [valD_put, if_pos rfl]
        unfold valD at hv
        cases q : kvs1.find? (fun kv => decide (kv.1 = .inr x)) with
        | none => rw [q] at hv; cases hv
        | some z =>
          have q2 := List.find?_some q
          exact List.any_eq_true.mpr ⟨z, List.mem_of_find?_eq_some q, by simpa using q2⟩
      show (putD kvs1 _ _).length = _
      unfold putD
      rw [if_pos this, List.length_map]
    omega) (fun y => by
    show valD (putD (putD kvs _ _) _ _) _ = _
    rw [valD_put, valD_put]
    simp only [Sum.inr.injEq]
    split <;> rfl) (v := .cell (den rs a env st).2.cells.length) ⟨rfl, k2, Nat.lt_succ_self _⟩
  obtain ⟨S2, e2, f2, R2⟩ := Ib _ _ _ _ E2 (n + 1) (by omega) _ _ Frm.refl (R1.app _) (by simp [Stt.push]) hf
  rw [hlen] at e2
  refine ⟨S2, worth_with R (by simp) ?_, f.trans (f1.trans (Frm.app.trans f2)), R2⟩
  rw [cs_m_Run_with_names]
  refine run_rt ?_
  unfold b_m_Run_with_names
  refine eSkip (eZB (zEqS (zG zV))) ?_
  refine eLet (eMeth (eZ zV) R.run rfl (eCons (eZ (zG zV)) (eCons (eZ zV) eNil)) e) ?_
  refine eLet (eFn (eCons (eZ zV) eNil) (fDict_copy ek)) ?_
  have pt := ePutD (ε := [some (D.ref L.run), some (enc (.own x a bd)), some (.ref r), none, none, none, some (.ref S'.length), some (.int (den rs a env st).1), none, none]) (a := dVar 7) (b := dVar 6) (kk := dBin oGet (dVar 1) (dC (.int 1))) (S := S' ++ [O.dct kvs]) (eZ zV) (eZ zV) (eZ (zG zV)) getLast_app rfl (big2 el (by omega))
  rw [put_last (E := S)] at pt
  refine eSeq pt ?_
  -- the cell
  have Ra := R'.app [O.dct kvs1]
  have hcl : L.cells < S'.length := R'.lt _ (by simp [Pl.mut])
  have ap1 := eApp (ε := [some (D.ref L.run), some (enc (.own x a bd)), some (.ref r), none, none, none, some (.ref S'.length), some (.int (den rs a env st).1), none, none]) (a := dFld "cells" (dVar 0)) (b := dVar 7) (S := S' ++ [O.dct kvs1]) (eFld (eZ zV) Ra.run rfl) Ra.cells (eZ zV) (big5 (by rw [List.length_map]; exact hfa.c))
  have es : (S' ++ [O.dct kvs1]).set L.cells (.lst ((den rs a env st).2.cells.map .int ++ [.int (den rs a env st).1])) = S1 ++ [O.dct kvs1] := by
    rw [List.set_append_left _ _ hcl]
    show _ = S'.set L.cells (.lst (((den rs a env st).2.cells ++ [(den rs a env st).1]).map .int)) ++ _
    rw [List.map_append]
    rfl
  rw [es] at ap1
  have R1a := R1.app [O.dct kvs1]
  have el2 : fLen [.ref L.cells] (S1 ++ [O.dct kvs1]) = .ok (.int (((den rs a env st).2.cells.length : Int) + 1)) (S1 ++ [O.dct kvs1]) := by
    unfold fLen
    simp only [items, R1a.cells]
    simp [Stt.push]
  have pt2 := ePutD (ε := [some (D.ref L.run), some (enc (.own x a bd)), some (.ref r), none, none, none, some (.ref S'.length), some (.int (den rs a env st).1), none, none]) (a := dBin oSub (dFn fLen (dCons (dFld "cells" (dVar 0)) dNil)) (dC (.int 1))) (b := dVar 6) (kk := dBin oGet (dVar 1) (dC (.int 1))) (S := S1 ++ [O.dct kvs1]) (S1 := S1 ++ [O.dct kvs1]) (x := .int ((den rs a env st).2.cells.length : Int)) (eBin (eFn (eCons (eFld (eZ zV) R1a.run rfl) eNil) el2) (eZ zC) (by rw [x_subI]; congr 2; omega)) (eZ zV) (eZ (zG zV)) (by rw [← hlen]; exact getLast_app) rfl (big2 (Nat.le_trans (putD_len _ _ _) (by omega)) (Nat.le_refl 1000))
  have es2 : (S1 ++ [O.dct kvs1]).set S'.length (.dct kvs2) = S1 ++ [O.dct kvs2] := by rw [← hlen]; exact put_last (E := S)
  have pt3 : sPut (dVar 6) (dBin oGet (dVar 1) (dC (.int 1))) (dBin oSub (dFn fLen (dCons (dFld "cells" (dVar 0)) dNil)) (dC (.int 1))) [some (D.ref L.run), some (enc (.own x a bd)), some (.ref r), none, none, none, some (.ref S'.length), some (.int (den rs a env st).1), none, none] (S1 ++ [O.dct kvs1]) = .ok (.nx [some (D.ref L.run), some (enc (.own x a bd)), some (.ref r), none, none, none, some (.ref S'.length), some (.int (den rs a env st).1), none, none]) (S1 ++ [O.dct kvs2]) := by
    rw [← es2]
    exact pt2
  refine eSeq (eIfT (eZB (zEqS (zG zV))) (eSeq (eExpr ap1) pt3)) (eRet (eMeth (eZ zV) (R1.app _).run rfl (eCons (eZ (zG zV)) (eCons (eZ zV) eNil)) e2))
end
end DL

set_option Elab.async false
set_option linter.all false
set_option maxRecDepth 100000
set_option maxHeartbeats 1000000
namespace DL
open PySem L2
section
variable {L : Pl} {S S0 : Sto} {st : Stt} {ε : Env} {c r m n b M : Nat} {env : Ev} {K : List Str} {x : Str} {t : Thk} {p : D} {rs : List RS}
theorem pairs_ix : ∀ {xs ys : List D} {i : Nat} {a b : D}, xs[i]? = some a → ys[i]? = some b → (pairs xs ys)[i]? = some (.tup [a, b])
  | [], _, _, _, _, h, _ => by simp at h
  | x :: xs, [], _, _, _, _, h => by simp at h
  | x :: xs, y :: ys, 0, a, b, h1, h2 => by
    simp at h1 h2
    subst h1; subst h2
    rfl
  | x :: xs, y :: ys, i + 1, a, b, h1, h2 => by
    simp at h1 h2
    show (pairs xs ys)[i]? = _
    exact pairs_ix h1 h2
theorem pairs_ln : ∀ {xs ys : List D}, xs.length = ys.length → (pairs xs ys).length = xs.length
  | [], [], _ => rfl
  | x :: xs, y :: ys, h => by
    show (pairs xs ys).length + 1 = xs.length + 1
    rw [pairs_ln (by simpa using h)]
  | [], y :: ys, h => by simp at h
  | x :: xs, [], h => by simp at h
/-- a rule's worths, one behind the other -/
theorem parts_loop {names : List Str} {ps : List Deed} (hlen : names.length = ps.length) (h1000 : ps.length ≤ 1000) (ge : GrowE env) (gr : GrowR rs) (hI : ∀ q ∈ ps, Impl L S0 c (den rs q env) (enc q) r M) (hn : M ≤ n) {e0 e1 e3 e4 e5 e6 e7 : Option D} :
    ∀ (k i : Nat) (acc : List D) (S : Sto) (st : Stt), i + k = ps.length → acc.length ≤ i → Frm L S0 S → Rep L S st → c ≤ st.cells.length → Fits (denL rs (ps.drop i) env st).2 →
      ∃ S', lcI (fun _ => some (pairs (names.map .str) (encs ps))) (gT 2 (gsCons (gN 8) (gsCons (gN 9) gsNil))) bYes (dTup (dCons (dVar 8) (dCons (dMeth "Run" "worth" 3 (csem n .m_Run_worth) (dVar 0) (dCons (dVar 9) (dCons (dVar 2) dNil))) dNil))) [8, 9] [some (.ref L.run), e1, some (.ref r), e3, e4, e5, e6, e7, none, none] (k + 1) i acc S
        = .ok (acc ++ ((names.drop i).zip (denL rs (ps.drop i) env st).1).map fun q => .tup [.str q.1, .int q.2]) S' ∧ Frm L S S' ∧ Rep L S' (denL rs (ps.drop i) env st).2
  | 0, i, acc, S, st, hi, ha, F, R, hc, hf => by
    have e1 : ps.drop i = [] := List.drop_eq_nil_of_le (by omega)
    have e2 : (pairs (names.map D.str) (encs ps))[i]? = none := List.getElem?_eq_none (by rw [pairs_ln (by rw [encs_map]; simpa using hlen), List.length_map]; omega)
    rw [e1] at hf ⊢
    unfold denL at hf ⊢
    refine ⟨S, ?_, Frm.refl, R⟩
    unfold lcI
    simp only [e2]
    simp
  | k + 1, i, acc, S, st, hi, ha, F, R, hc, hf => by
    have hip : i < ps.length := by omega
    have hin : i < names.length := by omega
    have d1 : ps.drop i = ps[i] :: ps.drop (i + 1) := List.drop_eq_getElem_cons hip
    have d2 : names.drop i = names[i] :: names.drop (i + 1) := List.drop_eq_getElem_cons hin
    rw [d1] at hf ⊢
    unfold denL at hf ⊢
    have g := den_grow gr ps[i] ge st
    have hfa : Fits (den rs ps[i] env st).2 := Fits.of (denL_grow gr _ ge _) hf
    obtain ⟨S1, e1', f1, R1⟩ := eW (ε := [some (.ref L.run), e1, some (.ref r), e3, e4, e5, e6, e7, some (.str names[i]), some (enc ps[i])]) (a := dVar 9) (bb := dVar 2) (hI ps[i] (List.getElem_mem hip)) hn F R hc hfa rfl zV zV
    obtain ⟨S2, e2, f2, R2⟩ := parts_loop (e0 := e0) hlen h1000 ge gr hI hn (e1 := e1) (e3 := e3) (e4 := e4) (e5 := e5) (e6 := e6) (e7 := e7) k (i + 1) (acc ++ [.tup [.str names[i], .int (den rs ps[i] env st).1]]) S1 _ (by omega) (by simp; omega) (F.trans f1) R1 (Nat.le_trans hc g.c) hf
    refine ⟨S2, ?_, f1.trans f2, R2⟩
    have gp : (pairs (names.map D.str) (encs ps))[i]? = some (.tup [.str names[i], enc ps[i]]) := pairs_ix (by rw [List.getElem?_map, List.getElem?_eq_getElem hin]; rfl) (by rw [encs_map, List.getElem?_map, List.getElem?_eq_getElem hip]; rfl)
    have gg : gT 2 (gsCons (gN 8) (gsCons (gN 9) gsNil)) (.tup [.str names[i], enc ps[i]]) (wipeE [some (.ref L.run), e1, some (.ref r), e3, e4, e5, e6, e7, none, none] [8, 9]) S = some [some (.ref L.run), e1, some (.ref r), e3, e4, e5, e6, e7, some (.str names[i]), some (enc ps[i])] := rfl
    have et : dTup (dCons (dVar 8) (dCons (dMeth "Run" "worth" 3 (csem n .m_Run_worth) (dVar 0) (dCons (dVar 9) (dCons (dVar 2) dNil))) dNil)) [some (.ref L.run), e1, some (.ref r), e3, e4, e5, e6, e7, some (.str names[i]), some (enc ps[i])] S = .ok (.tup [.str names[i], .int (den rs ps[i] env st).1]) S1 := eTup (eCons (eZ zV) (eCons e1' eNil))
    unfold lcI
    simp only [gp, gg, bYes, noX, x_bind, if_true, et]
    rw [if_pos (show acc.length < big from Nat.lt_of_le_of_lt (show acc.length ≤ 1000 by omega) (by decide)), e2, d2, List.zip_cons_cons, List.map_cons]
    simp only [List.append_assoc, List.singleton_append]
theorem fall_pairs {α : Type} {f : α → Str} {g : α → D} : ∀ l : List α, fall pairD (l.map fun q => D.tup [.str (f q), g q]) = some (l.map fun q => (.inr (f q), g q))
  | [] => rfl
  | a :: l => fall_cons rfl (fall_pairs l)
theorem fDict_list {ds : List D} {kvs : List (Key × D)} (h : S[r]? = some (.lst ds)) (hk : fall pairD ds = some kvs) : fDict [.ref r] S = .ok (.ref S.length) (S ++ [.dct (mergeD [] kvs)]) := by
  unfold fDict
  simp only [dctAt, litems, h, hk]
theorem putD_new {κ : Type} [DecidableEq κ] {k : κ} {v : D} {kvs : List (κ × D)} (h : k ∉ kvs.map (·.1)) : putD kvs k v = kvs ++ [(k, v)] := by
  unfold putD
  rw [if_neg]
  intro q
  obtain ⟨x, hx, e⟩ := List.any_eq_true.mp q
  exact h (List.mem_map.mpr ⟨x, hx, by simpa using e⟩)
theorem mergeD_new : ∀ (more kvs : List (Key × D)), ((kvs ++ more).map (·.1)).Nodup → mergeD kvs more = kvs ++ more
  | [], kvs, _ => by simp [mergeD]
  | a :: more, kvs, h => by
    have e : mergeD kvs (a :: more) = mergeD (putD kvs a.1 a.2) more := rfl
    have h1 : a.1 ∉ kvs.map (·.1) := by
      rw [List.map_append, List.map_cons] at h
      have := (List.nodup_append.mp h).2.2
      intro q
      exact this _ q _ List.mem_cons_self rfl
    rw [e, putD_new h1, mergeD_new more (kvs ++ [(a.1, a.2)]) (by simpa using h)]
    simp
theorem valD_lookup {l : List (Str × D)} {y : Str} : valD (l.map fun q => ((.inr q.1 : Key), q.2)) (.inr y) = l.lookup y := by
  unfold valD
  induction l with
  | nil => rfl
  | cons a l ih =>
    obtain ⟨k, v⟩ := a
    by_cases h : k = y
    · subst h; simp
    · have h2 : ¬ y = k := fun q => h q.symm
      have h3 : (y == k) = false := by simpa using h2
      simp only [List.map_cons, List.find?_cons, Sum.inr.injEq, h, decide_false, List.lookup_cons, h3]
      exact ih
/-- the surroundings as they stand in a dict -/
theorem zip_ok : ∀ {xs : List Str} {es : List EV} {ds : List D}, xs.length = es.length → es.length = ds.length → (∀ (i : Nat) (y : Str) (e : EV) (d : D), xs[i]? = some y → es[i]? = some e → ds[i]? = some d → EvOk L S c m y e (some d)) → ∀ y, match (xs.zip es).lookup y with
    | none => (xs.zip ds).lookup y = none
    | some v => EvOk L S c m y v ((xs.zip ds).lookup y)
  | [], _, _, _, _, _, y => by simp
  | x :: xs, [], _, h, _, _, _ => by simp at h
  | x :: xs, e :: es, [], _, h, _, _ => by simp at h
  | x :: xs, e :: es, d :: ds, h1, h2, h, y => by
    simp only [List.zip_cons_cons, List.lookup_cons]
    by_cases q : y = x
    · subst q
      simpa using h 0 y e d rfl rfl rfl
    · have q2 : (y == x) = false := by simpa using q
      rw [q2]
      exact zip_ok (by simpa using h1) (by simpa using h2) (fun i y e d a b c => h (i + 1) y e d (by simpa using a) (by simpa using b) (by simpa using c)) y
theorem zip_in {α : Type} : ∀ {xs : List Str} {es : List α} {y : Str}, xs.length = es.length → y ∈ xs → (xs.zip es).lookup y ≠ none
  | [], _, _, _, h => by simp at h
  | x :: xs, [], _, h, _ => by simp at h
  | x :: xs, e :: es, y, h1, h => by
    simp only [List.zip_cons_cons, List.lookup_cons]
    by_cases q : y = x
    · subst q; simp
    · have q2 : (y == x) = false := by simpa using q
      rw [q2]
      exact zip_in (by simpa using h1) (by rcases List.mem_cons.mp h with e | e; · exact absurd e q
                                           · exact e)
theorem zip_out {α : Type} : ∀ {xs : List Str} {es : List α} {y : Str}, y ∉ xs → (xs.zip es).lookup y = none
  | [], _, _, _ => by simp
  | x :: xs, [], _, _ => by simp
  | x :: xs, e :: es, y, h => by
    simp only [List.zip_cons_cons, List.lookup_cons]
    have q : ¬ y = x := fun e => h (e ▸ List.mem_cons_self)
    have q2 : (y == x) = false := by simpa using q
    rw [q2]
    exact zip_out fun m => h (List.mem_cons_of_mem _ m)
end
end DL

set_option Elab.async false
set_option linter.all false
set_option maxRecDepth 100000
set_option maxHeartbeats 1000000
namespace DL
open PySem L2
theorem nodup_map {α β : Type} {f : α → β} (hf : ∀ a b, f a = f b → a = b) {l : List α} (h : l.Nodup) : (l.map f).Nodup := List.Pairwise.map f (fun a b q e => q (hf a b e)) h
theorem dLc_of {it : IDen} {g : GDen} {c : DenB} {e : Den} {vs : List Nat} {ε : Env} {S S' S'' : Sto} {xs ds : List D} (hi : it ε S = .ok (fun _ => some xs) S') (hl : lcI (fun _ => some xs) g c e vs ε (xs.length + 1) 0 [] S' = .ok ds S'') : dLc it g c e vs ε S = .ok (.ref S''.length) (S'' ++ [.lst ds]) := by
  unfold dLc
  rw [hi, x_bind]
  simp only [hl, x_bind, lcEnd]
theorem eUpd {o a : Den} {ε : Env} {S S' : Sto} {n m : Nat} {kvs more : List (Key × D)} (ho : o ε S = .ok (.ref n) S) (hn : S[n]? = some (.dct kvs)) (ha : a ε S = .ok (.ref m) S') (hn' : S'[n]? = some (.dct kvs)) (hm : S'[m]? = some (.dct more)) (hne : n ≠ m) (hl : kvs.length + more.length ≤ 1000) : dUpd o a ε S = .ok .non (S'.set n (.dct (mergeD kvs more))) := by
  unfold dUpd
  rw [ho, x_bind]
  simp only [dctAt, hn, ha, x_bind, hn', hm]
  rw [if_pos ⟨hne, Nat.le_trans hl (by decide)⟩]
theorem pairs_h {r : Nat} : ∀ (xs : List Str) (hs : List Deed), (pairs (xs.map .str) (encs hs)).map (fun d => match d with | .tup [a, b] => D.tup [a, .tup [b, .ref r]] | d => d) = (xs.zip (hs.map fun d => D.tup [enc d, .ref r])).map fun q => D.tup [.str q.1, q.2]
  | [], _ => rfl
  | x :: xs, [] => rfl
  | x :: xs, h :: hs => by
    show _ :: (pairs (xs.map D.str) (encs hs)).map _ = _ :: _
    rw [pairs_h xs hs]
    rfl
/-- the surroundings of a rule's body -/
def callE (r : Rule) (ws : List Int) (ts : List Thk) : Ev := envOf (r.ns.zip (ws.map .int) ++ r.hs.zip (ts.map .th))
/-- the first j rules' bodies do what rs tells, at A levels more -/
def RulOk (L : Pl) (rules : List Rule) (rs : List RS) (j A : Nat) : Prop := ∀ i < j, ∃ r f, rules[i]? = some r ∧ rs[i]? = some f ∧ (r.ns ++ r.hs).Nodup ∧ (∀ x ∈ r.ns, kd x = 1) ∧ (∀ x ∈ r.hs, kd x = 3) ∧ r.ns.length ≤ 100 ∧ r.hs.length ≤ 100 ∧
  ∀ S c ρ m ws ts, ws.length = r.ns.length → ts.length = r.hs.length → EnvOk L S c ρ m (r.ns.length + r.hs.length) (callE r ws ts) (r.ns ++ r.hs) → (∀ t ∈ ts, Grow t) → Impl L S c (f ws ts) (enc r.b) ρ (m + A)
theorem denL_len (rs : List RS) : ∀ (ps : List Deed) (env : Ev) (st : Stt), (denL rs ps env st).1.length = ps.length
  | [], _, _ => rfl
  | p :: ps, env, st => by
    unfold denL
    simp [denL_len rs ps]
theorem denT_map (rs : List RS) : ∀ (ps : List Deed) (env : Ev), denT rs ps env = ps.map fun d => den rs d env
  | [], _ => rfl
  | p :: ps, env => by
    unfold denT
    rw [denT_map rs ps]
    rfl
section
variable {L : Pl} {S S0 : Sto} {st : Stt} {ε : Env} {c r m n b M A j : Nat} {env : Ev} {K : List Str} {x : Str} {t : Thk} {p : D} {rs : List RS} {rules : List Rule}
theorem impl_call {i : Nat} {ps hs : List Deed} (hL : L.rules = encRs rules) (RO : RulOk L rules rs j A) (hij : i < j) (hsz : (szs rules)[i]? = some (ps.length, hs.length)) (hr : r ∉ L.mut) (ge : GrowE env) (gr : GrowR rs) (Ip : ∀ q ∈ ps, Impl L S0 c (den rs q env) (enc q) r M) (Ih : ∀ q ∈ hs, Impl L S0 c (den rs q env) (enc q) r M) (hM : 1 ≤ M) :
    Impl L S0 c (den rs (.call i ps hs) env) (enc (.call i ps hs)) r (M + A + 2) := by
  intro n hn S st F R hc hf
  obtain ⟨n, rfl⟩ : ∃ k, n = k + 3 := ⟨n - 3, by omega⟩
  obtain ⟨ru, f, e1, e2, nd, k1, k3, l1, l2, body⟩ := RO i hij
  have hl1 : ru.ns.length = ps.length ∧ ru.hs.length = hs.length := by
    unfold szs at hsz
    rw [List.getElem?_map, e1] at hsz
    simpa using hsz
  obtain ⟨hp, hh⟩ := hl1
  have gp := denL_grow gr ps ge st
  have gf : Grow (f (denL rs ps env st).1 (denT rs hs env)) := gr f (List.mem_of_getElem? e2) _ _ (denT_grow gr hs ge)
  unfold den at hf ⊢
  simp only [e2, Option.getD_some] at hf ⊢
  have hfp : Fits (denL rs ps env st).2 := Fits.of (gf _) hf
  -- the worths
  obtain ⟨S1, lp, f1, R1⟩ := parts_loop (e0 := none) (n := n + 1) (names := ru.ns) (ps := ps) hp (by omega) ge gr Ip (by omega) (e1 := some (enc (.call i ps hs))) (e3 := some (tstr ru.ns)) (e4 := some (tstr ru.hs)) (e5 := some (enc ru.b)) (e6 := none) (e7 := none) ps.length 0 [] S st (by omega) (by simp) F R hc (by simpa using hfp)
  simp only [List.drop_zero, List.nil_append] at lp f1 R1
  let ws := (denL rs ps env st).1
  have hws : ws.length = ru.ns.length := by rw [hp]; exact denL_len rs ps env st
  have nd1 : ru.ns.Nodup := (List.nodup_append.mp nd).1
  let z1 : List (Str × D) := ru.ns.zip (ws.map .int)
  let z2 : List (Str × D) := ru.hs.zip (hs.map fun d => .tup [enc d, .ref r])
  have zk1 : z1.map (·.1) = ru.ns := List.map_fst_zip (by simp [hws])
  have zk2 : z2.map (·.1) = ru.hs := List.map_fst_zip (by simp [hh])
  let toL : List (Str × D) → List D := fun z => z.map fun q => .tup [.str q.1, q.2]
  let toK : List (Str × D) → List (Key × D) := fun z => z.map fun q => (.inr q.1, q.2)
  have hl1 : ((ru.ns.zip (denL rs ps env st).1).map fun q => D.tup [.str q.1, .int q.2]) = toL z1 := by
    show _ = (ru.ns.zip (ws.map D.int)).map _
    rw [List.zip_map_right, List.map_map]
    rfl
  rw [hl1] at lp
  have keysK : ∀ z : List (Str × D), (toK z).map (·.1) = (z.map (·.1)).map Sum.inr := fun z => by
    show (z.map fun q => ((.inr q.1 : Key), q.2)).map (·.1) = _
    rw [List.map_map, List.map_map]
    rfl
  have em1 : mergeD [] (toK z1) = toK z1 := by
    rw [mergeD_new _ [] (by rw [List.nil_append, keysK, zk1]; exact nodup_map (fun a b q => Sum.inr.inj q) nd1)]
    rfl
  have em2 : mergeD [] (toK z2) = toK z2 := by
    rw [mergeD_new _ [] (by rw [List.nil_append, keysK, zk2]; exact nodup_map (fun a b q => Sum.inr.inj q) (List.nodup_append.mp nd).2.1)]
    rfl
  have em3 : mergeD (toK z1) (toK z2) = toK (z1 ++ z2) := by
    have e : toK (z1 ++ z2) = toK z1 ++ toK z2 := List.map_append
    rw [mergeD_new _ _ (by rw [← e, keysK, List.map_append, zk1, zk2]; exact nodup_map (fun a b q => Sum.inr.inj q) nd), e]
  let S2 : Sto := S1 ++ [.lst (toL z1)]
  let ε1 : Env := [some (.ref L.run), some (enc (.call i ps hs)), some (.ref r), some (tstr ru.ns), some (tstr ru.hs), some (enc ru.b), none, none, none, none]
  let ε2 : Env := [some (.ref L.run), some (enc (.call i ps hs)), some (.ref r), some (tstr ru.ns), some (tstr ru.hs), some (enc ru.b), some (.ref S2.length), none, none, none]
  -- the first dict
  have it1 : iZipD (dVar 3) (dBin oGet (dVar 1) (dC (.int 2))) ε1 S = .ok (fun _ => some (pairs (ru.ns.map .str) (encs ps))) S := by
    unfold iZipD
    have a1 : dVar 3 ε1 S = .ok (tstr ru.ns) S := eZ zV
    have a2 : dBin oGet (dVar 1) (dC (.int 2)) ε1 S = .ok (.tup (encs ps)) S := eZ (zG zV)
    rw [a1, x_bind, a2, x_bind]
    rfl
  have pl : (pairs (ru.ns.map D.str) (encs ps)).length = ps.length := by rw [pairs_ln (by rw [encs_map]; simpa using hp), List.length_map, hp]
  have lc1 := dLc_of (vs := [8, 9]) it1 (by rw [pl]; exact lp)
  have fd1 : fDict [.ref S1.length] S2 = .ok (.ref S2.length) (S2 ++ [.dct (toK z1)]) := by
    have := fDict_list (getLast_app (A := S1) (x := O.lst (toL z1))) (fall_pairs (f := Prod.fst) (g := Prod.snd) z1)
    rw [this]
    show _ = DL.R.ok _ (S2 ++ [.dct (toK z1)])
    rw [← em1]
  -- the second
  have it2 : PurI [] (iZipD (dVar 4) (dBin oGet (dVar 1) (dC (.int 3)))) ε2 (pairs (ru.hs.map .str) (encs hs)) := piZip (xs := ru.hs.map .str) (ys := encs hs) pV (pO (d := enc (.call i ps hs)) (e := .int 3) pV pC fun S => rfl)
  have ll2 : (pairs (ru.hs.map D.str) (encs hs)).length ≤ 1000 := by rw [pairs_ln (by rw [encs_map]; simpa using hh), List.length_map]; omega
  obtain ⟨E, lc2⟩ := pLc1 (g := gT 2 (gsCons (gN 8) (gsCons (gN 9) gsNil))) (vs := [8, 9]) (e := dTup (dCons (dVar 8) (dCons (dTup (dCons (dVar 9) (dCons (dVar 2) dNil))) dNil))) (h := fun d => match d with | .tup [a, b] => D.tup [a, .tup [b, .ref r]] | d => d) it2 (fun x hx => by
    obtain ⟨k, hk⟩ := List.getElem?_of_mem hx
    have hkl := (List.getElem?_eq_some_iff.mp hk).1
    rw [pairs_ln (by rw [encs_map]; simpa using hh), List.length_map] at hkl
    have hkh : k < hs.length := by omega
    have e := pairs_ix (xs := ru.hs.map D.str) (ys := encs hs) (i := k) (a := .str ru.hs[k]) (b := enc hs[k]) (by rw [List.getElem?_map, List.getElem?_eq_getElem hkl]; rfl) (by rw [encs_map, List.getElem?_map, List.getElem?_eq_getElem hkh]; rfl)
    rw [hk] at e
    cases e
    exact ⟨_, fun S => rfl, pT (pK pV (pK (pT (pK pV (pK pV pN))) pN))⟩) ll2 (S2 ++ [.dct (toK z1)]) List.nil_prefix
  rw [pairs_h] at lc2
  let S4 : Sto := S2 ++ [.dct (toK z1)] ++ E ++ [.lst (toL z2)]
  have fd2 : fDict [.ref (S2 ++ [O.dct (toK z1)] ++ E).length] S4 = .ok (.ref S4.length) (S4 ++ [.dct (toK z2)]) := by
    have := fDict_list (getLast_app (A := S2 ++ [O.dct (toK z1)] ++ E) (x := O.lst (toL z2))) (fall_pairs (f := Prod.fst) (g := Prod.snd) z2)
    rw [this]
    show _ = DL.R.ok _ (S4 ++ [.dct (toK z2)])
    rw [← em2]
  let B : Sto := E ++ [.lst (toL z2)] ++ [.dct (toK z2)]
  have eS5 : S4 ++ [.dct (toK z2)] = S2 ++ [.dct (toK z1)] ++ B := by simp [S4, B]
  have up := eUpd (ε := ε2) (o := dVar 6) (a := dFn fDict (dCons (dLc (iZipD (dVar 4) (dBin oGet (dVar 1) (dC (.int 3)))) (gT 2 (gsCons (gN 8) (gsCons (gN 9) gsNil))) bYes (dTup (dCons (dVar 8) (dCons (dTup (dCons (dVar 9) (dCons (dVar 2) dNil))) dNil))) [8, 9]) dNil)) (S := S2 ++ [.dct (toK z1)]) (n := S2.length) (kvs := toK z1) (more := toK z2)
    (eZ zV) getLast_app (eFn (eCons lc2 eNil) fd2) (by rw [eS5]; exact mid_get) getLast_app (by simp [S4]) (by simp [toK, z1, z2, hws, hh]; omega)
  rw [eS5, mid_set, em3] at up
  let S6 : Sto := S2 ++ [.dct (toK (z1 ++ z2))] ++ B
  have eS6 : S6 = S1 ++ ([.lst (toL z1)] ++ [.dct (toK (z1 ++ z2))] ++ B) := by simp [S6, S2]
  have R6 : Rep L S6 (denL rs ps env st).2 := by rw [eS6]; exact R1.app _
  have f6 : Frm L S S6 := by rw [eS6]; exact f1.trans Frm.app
  have hd1 : S2.length ∉ L.mut := fun h => by
    have := R1.lt _ h
    simp [S2] at this
    omega
  have E6 : EnvOk L S6 c S2.length M (ru.ns.length + ru.hs.length) (callE ru ws (denT rs hs env)) (ru.ns ++ ru.hs) := by
    refine ⟨⟨toK (z1 ++ z2), mid_get, by simp [toK, z1, z2, hws, hh], fun y => ?_⟩, hd1, fun y hy => ?_⟩
    · rw [valD_lookup, List.lookup_append]
      unfold callE envOf
      rw [List.lookup_append]
      have q1 := zip_ok (L := L) (S := S6) (c := c) (m := M) (xs := ru.ns) (es := ws.map EV.int) (ds := ws.map D.int) (by simp [hws]) (by simp) (fun i y e d a b c => by
        rw [List.getElem?_map] at b c
        cases hw : ws[i]? with
        | none => rw [hw] at b; cases b
        | some w =>
          rw [hw] at b c
          cases b; cases c
          exact ⟨rfl, k1 y (List.mem_of_getElem? a)⟩) y
      have q2 := zip_ok (L := L) (S := S6) (c := c) (m := M) (xs := ru.hs) (es := (denT rs hs env).map EV.th) (ds := hs.map fun d => D.tup [enc d, .ref r]) (by simp [denT_map, hh]) (by simp [denT_map]) (fun i y e d a b c => by
        rw [denT_map, List.map_map, List.getElem?_map] at b
        rw [List.getElem?_map] at c
        cases hw : hs[i]? with
        | none => rw [hw] at b; cases b
        | some w =>
          rw [hw] at b c
          cases b; cases c
          exact ⟨⟨_, _, rfl, (Ih w (List.mem_of_getElem? hw)).up (F.trans f6) (Nat.le_refl _) (Nat.le_refl _)⟩, k3 y (List.mem_of_getElem? a)⟩) y
      cases h1 : (ru.ns.zip (ws.map EV.int)).lookup y with
      | some v =>
        rw [h1] at q1
        cases h2 : (ru.ns.zip (ws.map D.int)).lookup y with
        | none =>
          rw [h2] at q1
          cases v with
          | int v => exact absurd q1.1 (by simp)
          | cell i => exact absurd q1.1 (by simp)
          | th t => obtain ⟨⟨_, _, q, _⟩, _⟩ := q1; cases q
        | some d =>
          rw [h2] at q1
          exact q1
      | none =>
        rw [h1] at q1
        have q1' : (ru.ns.zip (ws.map D.int)).lookup y = none := q1
        show match (ru.hs.zip ((denT rs hs env).map EV.th)).lookup y with | none => ((z1.lookup y).or (z2.lookup y)) = none | some v => EvOk L S6 c M y v ((z1.lookup y).or (z2.lookup y))
        rw [show z1.lookup y = none from q1', Option.none_or]
        exact q2
    · unfold callE envOf
      rw [List.lookup_append]
      rcases List.mem_append.mp hy with h | h
      · have := zip_in (es := ws.map EV.int) (by simp [hws]) h
        cases q : (ru.ns.zip (ws.map EV.int)).lookup y with
        | none => exact absurd q this
        | some v => simp
      · have := zip_in (es := (denT rs hs env).map EV.th) (by simp [denT_map, hh]) h
        cases q : (ru.ns.zip (ws.map EV.int)).lookup y with
        | some v => simp
        | none =>
          rw [Option.none_or]
          exact this
  obtain ⟨S7, e7, f7, R7⟩ := body S6 c S2.length M ws (denT rs hs env) hws (by simp [denT_map, hh]) E6 (denT_grow gr hs ge) (n + 1) (by omega) S6 _ Frm.refl R6 (Nat.le_trans hc gp.c) hf
  refine ⟨S7, worth_with R (by simp) ?_, f6.trans f7, R7⟩
  rw [cs_m_Run_with_names]
  refine run_rt ?_
  unfold b_m_Run_with_names
  refine eTake (eZB (zEqS (zG zV))) ?_
  have hrule : oGet L.rules (.int (i : Int)) S = .ok (encR ru) S := by
    rw [hL]
    unfold encRs
    have il : i < rules.length := (List.getElem?_eq_some_iff.mp e1).1
    have : atI (rules.map encR) (i : Int) = some (encR ru) := by
      rw [atI_in (by omega) (by simpa using il), Int.toNat_natCast, List.getElem?_map, e1]
      rfl
    rw [x_getT, this]
  refine eLet (eBin (eFld (eZ zV) R.run rfl) (eZ (zG zV)) hrule) ?_
  refine eLet (eFn (eCons lc1 eNil) fd1) ?_
  refine eSeq (eExpr up) ?_
  exact eRet (eMeth (eZ zV) R6.run rfl (eCons (eZ zV) (eCons (eZ zV) eNil)) e7)
end
end DL

set_option Elab.async false
set_option linter.all false
set_option maxRecDepth 100000
set_option maxHeartbeats 1000000
namespace DL
open PySem L2
theorem putE_grow_int {env : Ev} (h : GrowE env) (x : Str) (v : Int) : GrowE (putE x (.int v) env) := h.put fun t e => by cases e
theorem putE_grow_cell {env : Ev} (h : GrowE env) (x : Str) (i : Nat) : GrowE (putE x (.cell i) env) := h.put fun t e => by cases e
theorem deps_mem : ∀ {ds : List Deed} {d : Deed}, d ∈ ds → dep d ≤ deps ds
  | [], _, h => by cases h
  | a :: ds, d, h => by
    simp only [deps]
    rcases List.mem_cons.mp h with e | e
    · rw [e]; exact Nat.le_max_left _ _
    · exact Nat.le_trans (deps_mem e) (Nat.le_max_right _ _)
section
variable {L : Pl} {rs : List RS} {rules : List Rule} {j A : Nat}
mutual
theorem den_impl (ap : Apart L) (hL : L.rules = encRs rules) (RO : RulOk L rules rs j A) (gr : GrowR rs) : ∀ (d : Deed) (k : Nat) {K : List Str} {env : Ev} {S0 : Sto} {c r m b : Nat}, dep d ≤ k → okD (szs (rules.take j)) K d → EnvOk L S0 c r m b env K → b + k ≤ 1000 → GrowE env → Impl L S0 c (den rs d env) (enc d) r (m + 5 + k * (A + 2))
  | .num i, k, K, env, S0, c, r, m, b, _, _, E, _, _ => impl_num.up Frm.refl (Nat.le_refl _) (by omega)
  | .nam x, k, K, env, S0, c, r, m, b, _, h, E, _, _ => (impl_nam E h.1 h.2).up Frm.refl (Nat.le_refl _) (by omega)
  | .dod x, k, K, env, S0, c, r, m, b, _, h, E, _, _ => (impl_dod E h.1 h.2).up Frm.refl (Nat.le_refl _) (by omega)
  | .ask, k, K, env, S0, c, r, m, b, _, _, E, _, _ => (impl_ask ap).up Frm.refl (Nat.le_refl _) (by omega)
  | .rd x, k, K, env, S0, c, r, m, b, _, h, E, _, _ => (impl_rd ap E h).up Frm.refl (Nat.le_refl _) (by omega)
  | .wr x a, 0, K, env, S0, c, r, m, b, hk, _, _, _, _ => by simp [dep] at hk
  | .say a, 0, K, env, S0, c, r, m, b, hk, _, _, _, _ => by simp [dep] at hk
  | .lt x a e, 0, K, env, S0, c, r, m, b, hk, _, _, _, _ => by simp [dep] at hk
  | .own x a e, 0, K, env, S0, c, r, m, b, hk, _, _, _, _ => by simp [dep] at hk
  | .iff a e f, 0, K, env, S0, c, r, m, b, hk, _, _, _, _ => by simp [dep] at hk
  | .two w a e, 0, K, env, S0, c, r, m, b, hk, _, _, _, _ => by simp [dep] at hk
  | .call i ps hs, 0, K, env, S0, c, r, m, b, hk, _, _, _, _ => by simp [dep] at hk
  | .wr x a, k + 1, K, env, S0, c, r, m, b, hk, h, E, hb, ge => by
    simp only [dep] at hk
    have := impl_wr (x := x) ap E ge gr (den_impl ap hL RO gr a k (by omega) h.2 E (by omega) ge) (by omega) h.1
    exact this.up Frm.refl (Nat.le_refl _) (by rw [Nat.succ_mul]; omega)
  | .say a, k + 1, K, env, S0, c, r, m, b, hk, h, E, hb, ge => by
    simp only [dep] at hk
    have := impl_say ap (den_impl ap hL RO gr a k (by omega) h E (by omega) ge) (by omega)
    exact this.up Frm.refl (Nat.le_refl _) (by rw [Nat.succ_mul]; omega)
  | .lt x a e, k + 1, K, env, S0, c, r, m, b, hk, h, E, hb, ge => by
    simp only [dep] at hk
    have := impl_lt (x := x) (bd := e) E (by omega) ge gr h.1 (den_impl ap hL RO gr a k (by omega) h.2.1 E (by omega) ge) (fun v S1 r1 c1 E1 => den_impl ap hL RO gr e k (by omega) h.2.2 E1 (by omega) (putE_grow_int ge x v)) (by omega)
    exact this.up Frm.refl (Nat.le_refl _) (by rw [Nat.succ_mul]; omega)
  | .own x a e, k + 1, K, env, S0, c, r, m, b, hk, h, E, hb, ge => by
    simp only [dep] at hk
    have := impl_own (x := x) (bd := e) ap E (by omega) ge gr h.1 (den_impl ap hL RO gr a k (by omega) h.2.1 E (by omega) ge) (fun v S1 r1 c1 E1 => den_impl ap hL RO gr e k (by omega) h.2.2 E1 (by omega) (putE_grow_cell ge x v)) (by omega)
    exact this.up Frm.refl (Nat.le_refl _) (by rw [Nat.succ_mul]; omega)
  | .iff a e f, k + 1, K, env, S0, c, r, m, b, hk, h, E, hb, ge => by
    simp only [dep] at hk
    have := impl_iff ge gr (den_impl ap hL RO gr a k (by omega) h.1 E (by omega) ge) (den_impl ap hL RO gr e k (by omega) h.2.1 E (by omega) ge) (den_impl ap hL RO gr f k (by omega) h.2.2 E (by omega) ge) (by omega)
    exact this.up Frm.refl (Nat.le_refl _) (by rw [Nat.succ_mul]; omega)
  | .two w a e, k + 1, K, env, S0, c, r, m, b, hk, h, E, hb, ge => by
    simp only [dep] at hk
    have := impl_two (w := w) ge gr (den_impl ap hL RO gr a k (by omega) h.1 E (by omega) ge) (den_impl ap hL RO gr e k (by omega) h.2 E (by omega) ge) (by omega)
    exact this.up Frm.refl (Nat.le_refl _) (by rw [Nat.succ_mul]; omega)
  | .call i ps hs, k + 1, K, env, S0, c, r, m, b, hk, h, E, hb, ge => by
    simp only [dep] at hk
    have hsz := h.1
    rw [szs_take] at hsz
    have hij : i < j := by
      have := (List.getElem?_eq_some_iff.mp hsz).1
      rw [List.length_take] at this
      omega
    rw [List.getElem?_take_of_lt hij] at hsz
    have := impl_call hL RO hij hsz E.r ge gr (M := m + 5 + k * (A + 2)) (fun q hq => dens_impl ap hL RO gr ps k (by omega) h.2.1 E (by omega) ge q hq) (fun q hq => dens_impl ap hL RO gr hs k (by omega) h.2.2 E (by omega) ge q hq) (by omega)
    exact this.up Frm.refl (Nat.le_refl _) (by rw [Nat.succ_mul]; omega)
theorem dens_impl (ap : Apart L) (hL : L.rules = encRs rules) (RO : RulOk L rules rs j A) (gr : GrowR rs) : ∀ (ds : List Deed) (k : Nat) {K : List Str} {env : Ev} {S0 : Sto} {c r m b : Nat}, deps ds ≤ k → okDs (szs (rules.take j)) K ds → EnvOk L S0 c r m b env K → b + k ≤ 1000 → GrowE env → ∀ d ∈ ds, Impl L S0 c (den rs d env) (enc d) r (m + 5 + k * (A + 2))
  | [], k, K, env, S0, c, r, m, b, _, _, _, _, _, d, hd => by cases hd
  | a :: ds, k, K, env, S0, c, r, m, b, hk, h, E, hb, ge, d, hd => by
    simp only [deps] at hk
    by_cases e : d = a
    · rw [e]
      exact den_impl ap hL RO gr a k (by omega) h.1 E hb ge
    · exact dens_impl ap hL RO gr ds k (by omega) h.2 E hb ge d (by rcases List.mem_cons.mp hd with q | q; · exact absurd q e
                                                                    · exact q)
end
end
/-! ### the rules of a law -/
/-- each rule by those ahead of it -/
def rsem : List Rule → List RS := fun l => l.foldl (fun acc r => acc ++ [fun ws ts => den acc r.b (callE r ws ts)]) []
theorem rsem_snoc (l : List Rule) (r : Rule) : rsem (l ++ [r]) = rsem l ++ [fun ws ts => den (rsem l) r.b (callE r ws ts)] := by
  unfold rsem
  rw [List.foldl_append]
  rfl
theorem snoc_ind {α : Type} {P : List α → Prop} (h0 : P []) (h1 : ∀ l a, P l → P (l ++ [a])) : ∀ l, P l := fun l => by
  have : ∀ l : List α, P l.reverse := fun l => by
    induction l with
    | nil => exact h0
    | cons a l ih => rw [List.reverse_cons]; exact h1 _ _ ih
  have q := this l.reverse
  rwa [List.reverse_reverse] at q
theorem rsem_len : ∀ l : List Rule, (rsem l).length = l.length := snoc_ind rfl fun l r ih => by rw [rsem_snoc]; simp [ih]
theorem rsem_get : ∀ (l : List Rule) (i : Nat) (r : Rule), l[i]? = some r → (rsem l)[i]? = some fun ws ts => den (rsem (l.take i)) r.b (callE r ws ts) := snoc_ind (by intro i r h; simp at h) fun l a ih i r h => by
  rw [rsem_snoc]
  by_cases hi : i < l.length
  · rw [List.getElem?_append_left hi] at h
    rw [List.getElem?_append_left (by rw [rsem_len]; exact hi), List.take_append_of_le_length (by omega)]
    exact ih i r h
  · have e : i = l.length := by
      have := (List.getElem?_eq_some_iff.mp h).1
      simp at this
      omega
    subst e
    rw [List.getElem?_append_right (Nat.le_refl _), Nat.sub_self] at h
    cases h
    rw [List.getElem?_append_right (by rw [rsem_len]; exact Nat.le_refl _), rsem_len, Nat.sub_self, List.take_left]
    rfl
theorem callE_grow {r : Rule} {ws : List Int} {ts : List Thk} (h : ∀ t ∈ ts, Grow t) : GrowE (callE r ws ts) := fun x t e => by
  unfold callE envOf at e
  rw [List.lookup_append] at e
  have lk : ∀ {xs : List Str} {es : List EV} {v : EV}, (xs.zip es).lookup x = some v → v ∈ es := by
    intro xs
    induction xs with
    | nil => intro es v h; simp at h
    | cons a xs ih =>
      intro es v h
      cases es with
      | nil => simp at h
      | cons b es =>
        simp only [List.zip_cons_cons, List.lookup_cons] at h
        split at h
        · cases h; exact List.mem_cons_self
        · exact List.mem_cons_of_mem _ (ih h)
  cases h1 : (r.ns.zip (ws.map EV.int)).lookup x with
  | some v =>
    rw [h1] at e
    have m := lk h1
    cases e
    obtain ⟨w, _, q⟩ := List.mem_map.mp m
    cases q
  | none =>
    rw [h1] at e
    have m := lk (show (r.hs.zip (ts.map EV.th)).lookup x = some (.th t) from e)
    obtain ⟨w, hw, q⟩ := List.mem_map.mp m
    cases q
    exact h t hw
theorem rsem_grow : ∀ l : List Rule, GrowR (rsem l) := snoc_ind (fun f h => by cases h) fun l r ih f hf ws ts ht => by
  rw [rsem_snoc] at hf
  rcases List.mem_append.mp hf with h | h
  · exact ih f h ws ts ht
  · rw [List.mem_singleton.mp h]
    exact den_grow ih _ (callE_grow ht)
/-- what a law's rules are, for runs: in order, small -/
structure RsRun (rules : List Rule) : Prop where
  ok : okRs rules
  dep : ∀ r ∈ rules, dep r.b ≤ 2
  sz : ∀ r ∈ rules, r.ns.length ≤ 100 ∧ r.hs.length ≤ 100
theorem kd_apart {r : Rule} {sz : List (Nat × Nat)} (o : okRl sz r) : (r.ns ++ r.hs).Nodup := List.nodup_append.mpr ⟨o.nn, o.nh, fun a ha b hb e => by
  have h1 := o.n a ha
  have h2 := o.h b hb
  rw [e] at h1
  omega⟩
/-- levels for the rules ahead of j -/
def lvl : Nat → Nat
  | 0 => 0
  | j + 1 => 5 + 2 * (lvl j + 2)
theorem lvl_mono {i j : Nat} (h : i ≤ j) : lvl i ≤ lvl j := by
  induction h with
  | refl => exact Nat.le_refl _
  | step _ ih => exact Nat.le_trans ih (by show _ ≤ 5 + 2 * (lvl _ + 2); omega)
theorem take_all {α : Type} {l : List α} {i : Nat} {a : α} (h : l[i]? = some a) (j : Nat) (hj : i < j) : (l.take j)[i]? = some a := by
  rw [List.getElem?_take_of_lt hj]
  exact h
theorem rules_run {L : Pl} {rules : List Rule} (ap : Apart L) (hL : L.rules = encRs rules) (R : RsRun rules) : ∀ j, j ≤ rules.length → RulOk L rules (rsem (rules.take j)) j (lvl j)
  | 0, _ => fun i h => by omega
  | j + 1, hj => by
    intro i hi
    have il : i < rules.length := by omega
    have ih := rules_run ap hL R i (by omega)
    have e1 : rules[i]? = some rules[i] := List.getElem?_eq_getElem il
    have o := R.ok i _ e1
    have hm := List.getElem_mem il
    have e2 := rsem_get (rules.take (j + 1)) i rules[i] (take_all e1 _ hi)
    rw [List.take_take, Nat.min_eq_left (by omega)] at e2
    refine ⟨rules[i], _, e1, e2, kd_apart o, o.n, o.h, (R.sz _ hm).1, (R.sz _ hm).2, fun S c ρ m ws ts hw ht E gt => ?_⟩
    have := den_impl ap hL ih (rsem_grow _) rules[i].b 2 (R.dep _ hm) (by simpa using o.b) E (by have := R.sz _ hm; omega) (callE_grow gt)
    exact this.up Frm.refl (Nat.le_refl _) (by
      have := lvl_mono (show i + 1 ≤ j + 1 by omega)
      simp only [lvl] at this ⊢
      omega)
end DL

set_option Elab.async false
set_option linter.all false
set_option maxRecDepth 100000
set_option maxHeartbeats 1000000
namespace DL
open PySem L2
/-! ### run(rules, deed, store, asked) -/
def kept0 (s : List Int) : Str → Int := fun x => ((abcd.zip s).lookup x).getD 0
def st0 (s asked : List Int) : Stt := ⟨kept0 s, asked, 0, [], [], []⟩
theorem pre_of {S S' : Sto} (hl : S.length ≤ S'.length) (h : ∀ n, n < S.length → S'[n]? = S[n]?) : ∃ E, S' = S ++ E := by
  refine ⟨S'.drop S.length, ?_⟩
  have : S'.take S.length = S := by
    apply List.ext_getElem?
    intro n
    by_cases hn : n < S.length
    · rw [List.getElem?_take_of_lt hn, h n hn]
    · rw [List.getElem?_eq_none (by simp; omega), List.getElem?_eq_none (by omega)]
  have e := List.take_append_drop S.length S'
  rw [this] at e
  exact e.symm
theorem set_at {S T : Sto} {k : Nat} {o : O} : (S ++ T).set (S.length + k) o = S ++ T.set k o := by
  rw [List.set_append_right _ _ (by omega)]
  simp
theorem set_at0 {S T : Sto} {o : O} : (S ++ T).set S.length o = S ++ T.set 0 o := set_at (k := 0)
theorem get_at {S T : Sto} {k : Nat} : (S ++ T)[S.length + k]? = T[k]? := by
  rw [List.getElem?_append_right (by omega)]
  simp
theorem get_at0 {S T : Sto} : (S ++ T)[S.length]? = T[0]? := get_at (k := 0)
theorem zip_abcd (S : Sto) {s : List Int} (hs : s.length = 4) {ε : Env} {a : Den} (ha : ZE a ε (.tup (s.map .int))) : dDictZip (dC (.str "abcd")) a ε S = .ok (.ref S.length) (S ++ [.dct (keptD (kept0 s))]) := by
  match s, hs with
  | [i, j, k, l], _ =>
    unfold dDictZip
    rw [x_C, x_bind, eZ ha, x_bind]
    rfl
theorem world_init (n : Nat) (S : Sto) {s : List Int} (hs : s.length = 4) {q : Nat} (hq : q < S.length) {L : Pl} (hL : L.kept = S.length + 1 ∧ L.spoken = S.length + 2 ∧ L.marks = S.length + 3 ∧ L.asked = q) :
    csem (n + 2) .m_World_init [.ref S.length, .tup (s.map .int), .ref q] (S ++ [.ins "World" []]) = .ok .non (S ++ [.ins "World" (wldF L 0), .dct (keptD (kept0 s)), .lst [], .lst []]) := by
  obtain ⟨l1, l2, l3, l4⟩ := hL
  rw [cs_m_World_init]
  let ε : Env := [some (.ref S.length), some (.tup (s.map .int)), some (.ref q)]
  have a1 : sFldD "kept" (dDictZip (dC (.str "abcd")) (dVar 1)) (dVar 0) ε (S ++ [.ins "World" []]) = .ok (.nx ε) (S ++ [.ins "World" [("kept", .ref (S.length + 1))], .dct (keptD (kept0 s))]) := by
    have := eSetF (f := "kept") (c := "World") (fs := []) (zip_abcd (S ++ [O.ins "World" []]) hs (a := dVar 1) (ε := ε) zV) (eZ (zV (i := 0) (d := .ref S.length))) (by rw [List.append_assoc, get_at0]; rfl) (by decide)
    rw [this, List.append_assoc, set_at0]
    simp [putFD]
  have a2 : sFldD "asked" (dVar 2) (dVar 0) ε (S ++ [.ins "World" [("kept", .ref (S.length + 1))], .dct (keptD (kept0 s))]) = .ok (.nx ε) (S ++ [.ins "World" [("kept", .ref (S.length + 1)), ("asked", .ref q)], .dct (keptD (kept0 s))]) := by
    have := eSetF (f := "asked") (c := "World") (a := dVar 2) (b := dVar 0) (ε := ε) (x := .ref q) (S := S ++ [.ins "World" [("kept", .ref (S.length + 1))], .dct (keptD (kept0 s))]) (eZ zV) (eZ (zV (i := 0) (d := .ref S.length))) (by rw [get_at0]; rfl) (by simp)
    rw [this, set_at0]
    rfl
  have a3 : sFldD "many" (dC (.int 0)) (dVar 0) ε (S ++ [.ins "World" [("kept", .ref (S.length + 1)), ("asked", .ref q)], .dct (keptD (kept0 s))]) = .ok (.nx ε) (S ++ [.ins "World" [("kept", .ref (S.length + 1)), ("asked", .ref q), ("many", .int 0)], .dct (keptD (kept0 s))]) := by
    have := eSetF (f := "many") (c := "World") (a := dC (.int 0)) (b := dVar 0) (ε := ε) (x := .int 0) (S := S ++ [.ins "World" [("kept", .ref (S.length + 1)), ("asked", .ref q)], .dct (keptD (kept0 s))]) (eZ zC) (eZ (zV (i := 0) (d := .ref S.length))) (by rw [get_at0]; rfl) (by simp)
    rw [this, set_at0]
    rfl
  have a4 : sFldD "spoken" (dLst dNil) (dVar 0) ε (S ++ [.ins "World" [("kept", .ref (S.length + 1)), ("asked", .ref q), ("many", .int 0)], .dct (keptD (kept0 s))]) = .ok (.nx ε) (S ++ [.ins "World" [("kept", .ref (S.length + 1)), ("asked", .ref q), ("many", .int 0), ("spoken", .ref (S.length + 2))], .dct (keptD (kept0 s)), .lst []]) := by
    have := eSetF (f := "spoken") (c := "World") (a := dLst dNil) (b := dVar 0) (ε := ε) (x := .ref (S.length + 2)) (S := S ++ [.ins "World" [("kept", .ref (S.length + 1)), ("asked", .ref q), ("many", .int 0)], .dct (keptD (kept0 s))]) (S1 := S ++ [.ins "World" [("kept", .ref (S.length + 1)), ("asked", .ref q), ("many", .int 0)], .dct (keptD (kept0 s)), .lst []]) (by simp) (eZ (zV (i := 0) (d := .ref S.length))) (by rw [get_at0]; rfl) (by simp)
    rw [this, set_at0]
    rfl
  have a5 : sFldD "marks" (dLst dNil) (dVar 0) ε (S ++ [.ins "World" [("kept", .ref (S.length + 1)), ("asked", .ref q), ("many", .int 0), ("spoken", .ref (S.length + 2))], .dct (keptD (kept0 s)), .lst []]) = .ok (.nx ε) (S ++ [.ins "World" (wldF L 0), .dct (keptD (kept0 s)), .lst [], .lst []]) := by
    have := eSetF (f := "marks") (c := "World") (a := dLst dNil) (b := dVar 0) (ε := ε) (x := .ref (S.length + 3)) (S := S ++ [.ins "World" [("kept", .ref (S.length + 1)), ("asked", .ref q), ("many", .int 0), ("spoken", .ref (S.length + 2))], .dct (keptD (kept0 s)), .lst []]) (S1 := S ++ [.ins "World" [("kept", .ref (S.length + 1)), ("asked", .ref q), ("many", .int 0), ("spoken", .ref (S.length + 2))], .dct (keptD (kept0 s)), .lst [], .lst []]) (by simp) (eZ (zV (i := 0) (d := .ref S.length))) (by rw [get_at0]; rfl) (by simp)
    rw [this, set_at0]
    unfold wldF
    rw [l1, l2, l3, l4]
    rfl
  refine run_nx (ε := ε) ?_
  unfold b_m_World_init
  exact eSeq a1 (eSeq a2 (eSeq a3 (eSeq a4 a5)))
theorem run_init (n : Nat) (S : Sto) {w a : Nat} {rd : D} {L : Pl} (hL : L.rules = rd ∧ L.w = w ∧ L.ans = a ∧ L.cells = S.length + 1) :
    csem (n + 2) .m_Run_init [.ref S.length, rd, .ref a, .ref w] (S ++ [.ins "Run" []]) = .ok .non (S ++ [.ins "Run" (runF L), .lst []]) := by
  obtain ⟨l1, l2, l3, l4⟩ := hL
  rw [cs_m_Run_init]
  let ε : Env := [some (.ref S.length), some rd, some (.ref a), some (.ref w)]
  have a1 : sFldD "rules" (dVar 1) (dVar 0) ε (S ++ [.ins "Run" []]) = .ok (.nx ε) (S ++ [.ins "Run" [("rules", rd)]]) := by
    have := eSetF (f := "rules") (c := "Run") (fs := []) (a := dVar 1) (b := dVar 0) (ε := ε) (x := rd) (S := S ++ [.ins "Run" []]) (eZ zV) (eZ (zV (i := 0) (d := .ref S.length))) (by rw [get_at0]; rfl) (by simp)
    rw [this, set_at0]
    rfl
  have a2 : sFldD "world" (dVar 3) (dVar 0) ε (S ++ [.ins "Run" [("rules", rd)]]) = .ok (.nx ε) (S ++ [.ins "Run" [("rules", rd), ("world", .ref w)]]) := by
    have := eSetF (f := "world") (c := "Run") (a := dVar 3) (b := dVar 0) (ε := ε) (x := .ref w) (S := S ++ [.ins "Run" [("rules", rd)]]) (eZ zV) (eZ (zV (i := 0) (d := .ref S.length))) (by rw [get_at0]; rfl) (by simp)
    rw [this, set_at0]
    rfl
  have a3 : sFldD "answers" (dVar 2) (dVar 0) ε (S ++ [.ins "Run" [("rules", rd), ("world", .ref w)]]) = .ok (.nx ε) (S ++ [.ins "Run" [("rules", rd), ("world", .ref w), ("answers", .ref a)]]) := by
    have := eSetF (f := "answers") (c := "Run") (a := dVar 2) (b := dVar 0) (ε := ε) (x := .ref a) (S := S ++ [.ins "Run" [("rules", rd), ("world", .ref w)]]) (eZ zV) (eZ (zV (i := 0) (d := .ref S.length))) (by rw [get_at0]; rfl) (by simp)
    rw [this, set_at0]
    rfl
  have a4 : sFldD "place" (dC (.int 0)) (dVar 0) ε (S ++ [.ins "Run" [("rules", rd), ("world", .ref w), ("answers", .ref a)]]) = .ok (.nx ε) (S ++ [.ins "Run" [("rules", rd), ("world", .ref w), ("answers", .ref a), ("place", .int 0)]]) := by
    have := eSetF (f := "place") (c := "Run") (a := dC (.int 0)) (b := dVar 0) (ε := ε) (x := .int 0) (S := S ++ [.ins "Run" [("rules", rd), ("world", .ref w), ("answers", .ref a)]]) (eZ zC) (eZ (zV (i := 0) (d := .ref S.length))) (by rw [get_at0]; rfl) (by simp)
    rw [this, set_at0]
    rfl
  have a5 : sFldD "wanted" (dC .non) (dVar 0) ε (S ++ [.ins "Run" [("rules", rd), ("world", .ref w), ("answers", .ref a), ("place", .int 0)]]) = .ok (.nx ε) (S ++ [.ins "Run" [("rules", rd), ("world", .ref w), ("answers", .ref a), ("place", .int 0), ("wanted", .non)]]) := by
    have := eSetF (f := "wanted") (c := "Run") (a := dC .non) (b := dVar 0) (ε := ε) (x := .non) (S := S ++ [.ins "Run" [("rules", rd), ("world", .ref w), ("answers", .ref a), ("place", .int 0)]]) (eZ zC) (eZ (zV (i := 0) (d := .ref S.length))) (by rw [get_at0]; rfl) (by simp)
    rw [this, set_at0]
    rfl
  have a6 : sFldD "cells" (dLst dNil) (dVar 0) ε (S ++ [.ins "Run" [("rules", rd), ("world", .ref w), ("answers", .ref a), ("place", .int 0), ("wanted", .non)]]) = .ok (.nx ε) (S ++ [.ins "Run" (runF L), .lst []]) := by
    have := eSetF (f := "cells") (c := "Run") (a := dLst dNil) (b := dVar 0) (ε := ε) (x := .ref (S.length + 1)) (S := S ++ [.ins "Run" [("rules", rd), ("world", .ref w), ("answers", .ref a), ("place", .int 0), ("wanted", .non)]]) (S1 := S ++ [.ins "Run" [("rules", rd), ("world", .ref w), ("answers", .ref a), ("place", .int 0), ("wanted", .non)], .lst []]) (by simp) (eZ (zV (i := 0) (d := .ref S.length))) (by rw [get_at0]; rfl) (by simp)
    rw [this, set_at0]
    unfold runF
    rw [l1, l2, l3, l4]
    rfl
  refine run_nx (ε := ε) ?_
  unfold b_m_Run_init
  exact eSeq a1 (eSeq a2 (eSeq a3 (eSeq a4 (eSeq a5 a6))))
end DL

set_option Elab.async false
set_option linter.all false
set_option maxRecDepth 100000
set_option maxHeartbeats 1000000
namespace DL
open PySem L2
theorem eMake {c : Str} {np : Nat} {F : Fn} {r : DenA} {ε : Env} {S S1 S2 : Sto} {ds : List D} (hr : r ε S = .ok ds S1) (k : F (.ref S1.length :: ds) (S1 ++ [.ins c []]) = .ok .non S2) (hl : ds.length + 1 = np := by rfl) : dMake c np F r ε S = .ok (.ref S1.length) S2 := by
  unfold dMake
  rw [hr, x_bind, if_pos hl, k, x_bind]
theorem pre_get {B S : Sto} {n : Nat} {o : O} (h : B <+: S) (e : B[n]? = some o) : S[n]? = some o := by
  obtain ⟨T, rfl⟩ := h
  rw [List.getElem?_append_left (List.getElem?_eq_some_iff.mp e).1]
  exact e
/-- world.shelves() -/
theorem shelves_sem (n : Nat) {L : Pl} {S : Sto} {st : Stt} (R : Rep L S st) : ∃ E, csem (n + 2) .m_World_shelves [.ref L.w] S = .ok (.tup (abcd.map fun x => .int (st.kept x))) (S ++ E) := by
  rw [cs_m_World_shelves]
  have hi : PurI S (iAny (dC (.str "abcd"))) [some (.ref L.w), none] (signs "abcd") := piStr pC
  have h := pLc1 (g := gN 1) (vs := [1]) (e := dBin oGet (dFld "kept" (dVar 0)) (dVar 1)) (h := fun d => match d with | .str x => .int (st.kept x) | d => d) hi (fun x hx => by
    have hm : x ∈ abcd.map D.str := hx
    obtain ⟨y, hy, rfl⟩ := List.mem_map.mp hm
    refine ⟨_, fun S => rfl, fun S1 hS => ⟨[], ?_⟩⟩
    rw [List.append_nil]
    exact eBin (eFld (eZ (zV (i := 0) (d := .ref L.w))) (pre_get hS R.w) rfl) (eZ zV) (eGetD (pre_get hS R.kept) rfl (kept_val hy))) (by decide)
  obtain ⟨E, e⟩ := pTupL h S (List.prefix_refl _)
  refine ⟨E, run_rt ?_⟩
  unfold b_m_World_shelves
  exact eRet e
/-- what run comes to -/
def outD (o : Int × Stt) (sp : Nat) : D := .tup [.int o.1, .tup (abcd.map fun x => .int (o.2.kept x)), .ref sp, .int o.2.many]
def runT (rules : List Rule) (d : Deed) (s asked : List Int) : Int × Stt := den (rsem rules) d (fun _ => none) (st0 s asked)
theorem run_sem {rules : List Rule} {d : Deed} {k : Nat} (R : RsRun rules) (ho : okD (szs rules) [] d) (hk : dep d ≤ k) (hk2 : k ≤ 900) {s asked : List Int} (hs : s.length = 4) {n : Nat} (hn : 5 + k * (lvl rules.length + 2) ≤ n) {S : Sto} {q : Nat} (hq : S[q]? = some (.lst (asked.map .int)))
    (hf : Fits (runT rules d s asked).2) : ∃ E sp, csem (n + 3) .f_run [encRs rules, enc d, .tup (s.map .int), .ref q] S = .ok (outD (runT rules d s asked) sp) (S ++ E) ∧ (S ++ E)[sp]? = some (.lst ((runT rules d s asked).2.spoken.map .int)) ∧ S.length ≤ sp := by
  have hql : q < S.length := (List.getElem?_eq_some_iff.mp hq).1
  let L : Pl := { run := S.length + 5, w := S.length, kept := S.length + 1, spoken := S.length + 2, marks := S.length + 3, cells := S.length + 6, asked := q, ans := S.length + 4, rules := encRs rules }
  have ap : Apart L := by
    refine ⟨?_, ?_, ?_⟩
    · simp [Pl.mut, L]
    · simp [Pl.mut, L]
    · simp [Pl.mut, L]; omega
  obtain ⟨n, rfl⟩ : ∃ j, n = j + 5 := ⟨n - 5, by omega⟩
  let ε : Env := [some (encRs rules), some (enc d), some (.tup (s.map .int)), some (.ref q), none, none]
  let T0 : Sto := [.ins "World" (wldF L 0), .dct (keptD (kept0 s)), .lst [], .lst []]
  have w1 : dMake "World" 3 (csem (n + 6) .m_World_init) (dCons (dVar 2) (dCons (dVar 3) dNil)) ε S = .ok (.ref S.length) (S ++ T0) :=
    eMake (eCons (eZ zV) (eCons (eZ zV) eNil)) (world_init (n + 4) S hs hql (L := L) ⟨rfl, rfl, rfl, rfl⟩)
  -- finished
  let εf : Env := [some (encRs rules), some (enc d), some (.ref S.length)]
  let S1 : Sto := S ++ T0 ++ [.lst []]
  have l1 : S1.length = S.length + 5 := by simp [S1, T0]
  have m1 : dMake "Run" 4 (csem (n + 5) .m_Run_init) (dCons (dVar 0) (dCons (dLst dNil) (dCons (dVar 2) dNil))) εf (S ++ T0) = .ok (.ref S1.length) (S1 ++ [.ins "Run" (runF L), .lst []]) := by
    have a0 : dLst dNil εf (S ++ T0) = .ok (.ref (S.length + 4)) S1 := by simp [S1, T0]
    exact eMake (eCons (eZ (zV (i := 0) (d := encRs rules))) (eCons a0 (eCons (eZ (zV (i := 2) (d := .ref S.length))) eNil))) (run_init (n + 3) S1 (L := L) (rd := encRs rules) (w := S.length) (a := S.length + 4) ⟨rfl, rfl, rfl, by show S.length + 6 = _; omega⟩)
  let S3 : Sto := S1 ++ [.ins "Run" (runF L), .lst []] ++ [.dct []]
  have eS3 : S3 = S ++ [.ins "World" (wldF L 0), .dct (keptD (kept0 s)), .lst [], .lst [], .lst [], .ins "Run" (runF L), .lst [], .dct []] := by simp [S3, S1, T0]
  have R3 : Rep L S3 (st0 s asked) := by
    rw [eS3]
    exact ⟨get_at (k := 5), get_at0, get_at (k := 1), get_at (k := 2), get_at (k := 3), get_at (k := 6), by
      rw [List.getElem?_append_left hql]
      exact hq⟩
  have E3 : EnvOk L S3 0 (S.length + 7) 0 0 (fun _ => none) [] := by
    refine ⟨⟨[], by rw [eS3]; exact get_at (k := 7), by simp, fun x => rfl⟩, ?_, by simp⟩
    simp [Pl.mut, L]
  have RO := rules_run ap (L := L) rfl R rules.length (Nat.le_refl _)
  rw [List.take_length] at RO
  have ge : GrowE (fun _ => none) := fun x t e => by cases e
  have I := den_impl ap (L := L) rfl RO (rsem_grow rules) d k (K := []) hk (by rw [List.take_length]; exact ho) E3 (by omega) ge
  obtain ⟨S4, e4, f4, R4⟩ := I (n + 6) (by omega) S3 _ Frm.refl R3 (Nat.zero_le _) hf
  have fin : csem (n + 7) .f_finished [encRs rules, enc d, .ref S.length] (S ++ T0) = .ok (.int (runT rules d s asked).1) S4 := by
    rw [cs_f_finished]
    refine run_rt ?_
    unfold b_f_finished
    have nk : dNewK εf (S1 ++ [.ins "Run" (runF L), .lst []]) = .ok (.ref (S.length + 7)) S3 := by
      show DL.R.ok _ _ = _
      simp [S3, l1]
    refine eRet (eMeth m1 (by rw [get_at0]; rfl) rfl (eCons (eZ (zV (i := 1) (d := enc d))) (eCons nk eNil)) ?_)
    rw [l1]
    exact e4
  -- the end
  have hkeep : ∀ j, j < S.length → S4[j]? = S[j]? := fun j hj => by
    have a : S3[j]? = S[j]? := by rw [eS3, List.getElem?_append_left hj]
    have b : S[j]? = some S[j] := List.getElem?_eq_getElem hj
    rw [b] at a ⊢
    exact f4.keep j _ (by simp [Pl.mut, L]; omega) a
  obtain ⟨E4, rfl⟩ := pre_of (by have := f4.len; rw [eS3] at this; simp at this; omega) hkeep
  obtain ⟨E5, e5⟩ := shelves_sem (n + 5) R4
  have R5 := R4.app E5
  refine ⟨E4 ++ E5, S.length + 2, ?_, by rw [← List.append_assoc]; exact R5.spoken, by omega⟩
  rw [cs_f_run]
  refine run_rt ?_
  unfold b_f_run
  refine eLet w1 ?_
  refine eLet (eCall (eCons (eZ zV) (eCons (eZ zV) (eCons (eZ zV) eNil))) fin) ?_
  rw [← List.append_assoc]
  have em := eMeth (np := 1) (c := "World") (m := "shelves") (F := csem (n + 7) .m_World_shelves) (a := dVar 4) (ar := dNil) (ε := [some (encRs rules), some (enc d), some (.tup (s.map .int)), some (.ref q), some (.ref S.length), some (.int (runT rules d s asked).1)]) (S := S ++ E4) (eZ zV) R4.w rfl eNil e5
  refine eRet (eTup (ds := [.int (runT rules d s asked).1, .tup (abcd.map fun x => .int ((runT rules d s asked).2.kept x)), .ref (S.length + 2), .int (runT rules d s asked).2.many]) (eCons (eZ zV) (eCons em (eCons (eFld (eZ zV) R5.w rfl) (eCons (eFld (eZ zV) R5.w rfl) eNil)))))
end DL

set_option Elab.async false
set_option linter.all false
set_option maxRecDepth 100000
set_option maxHeartbeats 1000000
namespace DL
open PySem L2
/-! ### a deed's weight, as the laws reckon it -/
abbrev RW := List Int → Int
mutual
def wt (rw : List RW) (hw : Str → Int) : Deed → Int
  | .num _ => 1 | .nam _ => 1 | .ask => 1 | .rd _ => 1
  | .dod x => hw x
  | .wr _ a => 1 + [wt rw hw a].sum
  | .say a => 1 + [wt rw hw a].sum
  | .lt _ a b => 1 + [wt rw hw a, wt rw hw b].sum
  | .own _ a b => 1 + [wt rw hw a, wt rw hw b].sum
  | .iff a b c => 1 + [wt rw hw a, wt rw hw b, wt rw hw c].sum
  | .two .lop a b => 1 + wt rw hw a + 3 * wt rw hw b
  | .two _ a b => 1 + [wt rw hw a, wt rw hw b].sum
  | .call i ps hs => 1 + (wtL rw hw ps).sum + ((rw[i]?).getD fun _ => 0) (wtL rw hw hs)
def wtL (rw : List RW) (hw : Str → Int) : List Deed → List Int
  | [] => []
  | d :: ds => wt rw hw d :: wtL rw hw ds
end
theorem wtL_map (rw : List RW) (hw : Str → Int) : ∀ ds : List Deed, wtL rw hw ds = ds.map (wt rw hw)
  | [] => rfl
  | d :: ds => by rw [wtL, wtL_map rw hw ds]; rfl
def hwOf (hs : List Str) (ws : List Int) : Str → Int := fun x => ((hs.zip ws).lookup x).getD 1
def rwt : List Rule → List RW := fun l => l.foldl (fun acc r => acc ++ [fun ws => wt acc (hwOf r.hs ws) r.b]) []
theorem rwt_snoc (l : List Rule) (r : Rule) : rwt (l ++ [r]) = rwt l ++ [fun ws => wt (rwt l) (hwOf r.hs ws) r.b] := by
  unfold rwt
  rw [List.foldl_append]
  rfl
theorem rwt_len : ∀ l : List Rule, (rwt l).length = l.length := snoc_ind rfl fun l r ih => by rw [rwt_snoc]; simp [ih]
theorem rwt_get : ∀ (l : List Rule) (i : Nat) (r : Rule), l[i]? = some r → (rwt l)[i]? = some fun ws => wt (rwt (l.take i)) (hwOf r.hs ws) r.b := snoc_ind (by intro i r h; simp at h) fun l a ih i r h => by
  rw [rwt_snoc]
  by_cases hi : i < l.length
  · rw [List.getElem?_append_left hi] at h
    rw [List.getElem?_append_left (by rw [rwt_len]; exact hi), List.take_append_of_le_length (by omega)]
    exact ih i r h
  · have e : i = l.length := by
      have := (List.getElem?_eq_some_iff.mp h).1
      simp at this
      omega
    subst e
    rw [List.getElem?_append_right (Nat.le_refl _), Nat.sub_self] at h
    cases h
    rw [List.getElem?_append_right (by rw [rwt_len]; exact Nat.le_refl _), rwt_len, Nat.sub_self, List.take_left]
    rfl
section
variable {B : Sto}
/-- [e for x in xs if c], place by place -/
theorem lc_pure2 {src : Src} {g : GDen} {c : DenB} {e : Den} {vs : List Nat} {ε : Env} {xs : List D} {os : List (Option D)} (hsrc : ∀ S', B <+: S' → src S' = some xs) (hlen : xs.length = os.length) (hx : ∀ (i : Nat) (x : D) (o : Option D), xs[i]? = some x → os[i]? = some o → ∃ ε', (∀ S, g x (wipeE ε vs) S = some ε') ∧ PurB B c ε' o.isSome ∧ ∀ v, o = some v → PurE B e ε' v) (hl : xs.length ≤ 1000) :
    ∀ (k i : Nat) (acc : List D) (S : Sto), i + k = xs.length → acc.length ≤ i → B <+: S → ∃ E, lcI src g c e vs ε (k + 1) i acc S = .ok (acc ++ (os.drop i).filterMap id) (S ++ E)
  | 0, i, acc, S, hk, ha, hS => by
    refine ⟨[], ?_⟩
    unfold lcI
    have e1 : xs[i]? = none := List.getElem?_eq_none (by omega)
    have e2 : os.drop i = [] := List.drop_eq_nil_of_le (by omega)
    simp only [hsrc S hS, e1, e2]
    simp
  | k + 1, i, acc, S, hk, ha, hS => by
    have hi : i < xs.length := by omega
    have e1 : xs[i]? = some xs[i] := List.getElem?_eq_getElem hi
    have e1' : os[i]? = some os[i] := List.getElem?_eq_getElem (by omega)
    obtain ⟨ε', hg, hc, he⟩ := hx i _ _ e1 e1'
    obtain ⟨E1, e2⟩ := hc S hS
    have e3 : os.drop i = os[i] :: os.drop (i + 1) := List.drop_eq_getElem_cons (by omega)
    unfold lcI
    simp only [hsrc S hS, e1, hg, e2, noX, x_bind]
    rw [e3]
    cases ho : os[i] with
    | some v =>
      obtain ⟨E2, e4⟩ := he v ho (S ++ E1) (pre_app hS)
      obtain ⟨E3, e5⟩ := lc_pure2 hsrc hlen hx hl k (i + 1) (acc ++ [v]) (S ++ E1 ++ E2) (by omega) (by simp; omega) (pre_app (pre_app hS))
      refine ⟨E1 ++ E2 ++ E3, ?_⟩
      simp only [Option.isSome_some, if_true, e4, noX, x_bind]
      rw [if_pos (show acc.length < big from Nat.lt_of_lt_of_le (show acc.length < 1001 by omega) (by decide)), e5]
      simp
    | none =>
      obtain ⟨E3, e5⟩ := lc_pure2 hsrc hlen hx hl k (i + 1) acc (S ++ E1) (by omega) (by omega) (pre_app hS)
      refine ⟨E1 ++ E3, ?_⟩
      simp only [Option.isSome_none, Bool.false_eq_true, if_false, e5]
      simp
theorem pLc2 {it : IDen} {g : GDen} {c : DenB} {e : Den} {vs : List Nat} {ε : Env} {xs : List D} (os : List (Option D)) (hi : PurI B it ε xs) (hlen : xs.length = os.length) (hx : ∀ (i : Nat) (x : D) (o : Option D), xs[i]? = some x → os[i]? = some o → ∃ ε', (∀ S, g x (wipeE ε vs) S = some ε') ∧ PurB B c ε' o.isSome ∧ ∀ v, o = some v → PurE B e ε' v) (hl : xs.length ≤ 1000) : PurL B (dLc it g c e vs) ε (os.filterMap id) := fun S hS => by
  obtain ⟨E, src, e1, hs⟩ := hi S hS
  obtain ⟨E2, e2⟩ := lc_pure2 (B := S ++ E) (os := os) hs hlen (fun i x o h1 h2 => by
    obtain ⟨ε', a, b, k⟩ := hx i x o h1 h2
    exact ⟨ε', a, fun S' hS' => b S' ((pre_app hS).trans hS'), fun v q S' hS' => k v q S' ((pre_app hS).trans hS')⟩) hl xs.length 0 [] (S ++ E) (by omega) (by simp) (List.prefix_refl _)
  refine ⟨E ++ E2, ?_⟩
  unfold dLc
  rw [e1, x_bind]
  simp only [hs (S ++ E) (List.prefix_refl _), e2, x_bind, lcEnd]
  simp
/-- a list without a test -/
theorem pLc3 {it : IDen} {g : GDen} {e : Den} {vs : List Nat} {ε : Env} {xs : List D} (os : List D) (hi : PurI B it ε xs) (hlen : xs.length = os.length) (hx : ∀ (i : Nat) (x o : D), xs[i]? = some x → os[i]? = some o → ∃ ε', (∀ S, g x (wipeE ε vs) S = some ε') ∧ PurE B e ε' o) (hl : xs.length ≤ 1000) : PurL B (dLc it g bYes e vs) ε os := by
  have := pLc2 (c := bYes) (os.map some) hi (by simpa using hlen) (fun i x o h1 h2 => by
    rw [List.getElem?_map] at h2
    cases h3 : os[i]? with
    | none => rw [h3] at h2; cases h2
    | some v =>
      rw [h3] at h2
      cases h2
      obtain ⟨ε', a, b⟩ := hx i x v h1 h3
      exact ⟨ε', a, bYes_pure, fun w q => by cases q; exact b⟩) hl
  simpa [List.filterMap_map] using this
def WEnv (B : Sto) (r : Nat) (hw : Str → Int) : Prop := ∃ kvs, B[r]? = some (.dct kvs) ∧ ∀ x, (valD kvs (.inr x)).getD (.int 1) = .int (hw x)
theorem WEnv.up {B' : Sto} {r : Nat} {hw : Str → Int} (h : WEnv B r hw) (hB : B <+: B') : WEnv B' r hw := by
  obtain ⟨kvs, e, q⟩ := h
  exact ⟨kvs, pre_get hB e, q⟩
end
end DL

set_option Elab.async false
set_option linter.all false
set_option maxRecDepth 100000
set_option maxHeartbeats 1000000
namespace DL
open PySem L2
section
variable {B : Sto} {a b : Den} {ba : DenB} {ε : Env} {d : D} {t : Bool} {ds : List D} {g : GDen} {w : SDen} {fl : Fl}
theorem pZ (h : ZE a ε d) : PurE B a ε d := fun S _ => ⟨[], by rw [h S]; simp⟩
theorem pZB (h : ZB ba ε t) : PurB B ba ε t := fun S _ => ⟨[], by rw [h S]; simp⟩
theorem pLetL {ε' : Nat → Env} (ha : PurL B a ε ds) (hg : ∀ k S, g (.ref k) ε S = some (ε' k)) (hw : ∀ (B' : Sto) (k : Nat), B <+: B' → B'[k]? = some (.lst ds) → PurS B' w (ε' k) fl) : PurS B (sSeq (sAsg a g) w) ε fl := pLetAt fun S hS => by
  obtain ⟨E, e⟩ := ha S hS
  refine ⟨E ++ [.lst ds], _, _, by rw [e, List.append_assoc], hg _, ?_⟩
  refine hw _ _ (pre_app hS) ?_
  rw [← List.append_assoc]
  exact getLast_app
theorem pLetD {ε' : Nat → Env} {kvs : List (Key × D)} (ha : PurL B a ε ds) (hk : fall pairD ds = some kvs) (hg : ∀ k S, g (.ref k) ε S = some (ε' k)) (hw : ∀ (B' : Sto) (k : Nat), B <+: B' → B'[k]? = some (.dct (mergeD [] kvs)) → PurS B' w (ε' k) fl) : PurS B (sSeq (sAsg (dFn fDict (dCons a dNil)) g) w) ε fl := pLetAt fun S hS => by
  obtain ⟨E, e⟩ := ha S hS
  refine ⟨E ++ [.lst ds] ++ [.dct (mergeD [] kvs)], .ref (S ++ E ++ [O.lst ds]).length, _, ?_, hg _, ?_⟩
  · rw [eFn (eCons e eNil) (fDict_list getLast_app hk)]
    simp
  · refine hw _ _ (pre_app hS) ?_
    rw [← List.append_assoc, ← List.append_assoc]
    exact getLast_app
theorem pGetL {i k : Nat} {j : Int} {x : D} (ha : PurE B a ε (.ref k)) (hk : B[k]? = some (.lst ds)) (h : atI ds j = some x) : PurE B (dBin oGet a (dC (.int j))) ε x := fun S hS => by
  obtain ⟨E, e⟩ := ha S hS
  exact ⟨E, eBin e (eZ zC) (eGetL (pre_get (pre_app hS) hk) h)⟩
theorem pSumR {k : Nat} {ns : List Int} (ha : PurE B a ε (.ref k)) (hk : B[k]? = some (.lst (ns.map .int))) : PurE B (dFn fSum (dCons a dNil)) ε (.int ns.sum) := fun S hS => by
  obtain ⟨E, e⟩ := ha S hS
  refine ⟨E, eFn (eCons e eNil) ?_⟩
  unfold fSum fLst
  have q : litems (S ++ E) (.ref k) = some (ns.map .int) := by
    unfold litems
    simp only [pre_get (pre_app hS) hk]
  simp only [q, fall_intD]
theorem pGet2 {r : Nat} {hw : Str → Int} {x : Str} {k c : Den} (hW : WEnv B r hw) (ha : ZE a ε (.ref r)) (hk : ZE k ε (.str x)) (hc : ZE c ε (.int 1)) : PurE B (dGet2 a k c) ε (.int (hw x)) := fun S hS => by
  obtain ⟨kvs, e, q⟩ := hW
  refine ⟨[], ?_⟩
  rw [eGet2 ha hk hc (pre_get hS e) (rfl : keyD (.str x) = some (.inr x)), q x]
  simp
end
theorem lk_map {β γ : Type} {f : β → γ} {x : Str} : ∀ {xs : List Str} {ys : List β}, (xs.zip (ys.map f)).lookup x = ((xs.zip ys).lookup x).map f
  | [], _ => by simp
  | a :: xs, [] => by simp
  | a :: xs, b :: ys => by
    simp only [List.map_cons, List.zip_cons_cons, List.lookup_cons]
    split
    · rfl
    · exact lk_map
theorem tupD_isi {S : Sto} : ∀ d : Deed, isiD "tuple" S (enc d) = some true
  | .num _ => rfl | .nam _ => rfl | .dod _ => rfl | .ask => rfl | .rd _ => rfl | .wr _ _ => rfl | .say _ => rfl | .lt _ _ _ => rfl | .own _ _ _ => rfl | .iff _ _ _ => rfl | .two _ _ _ => rfl | .call _ _ _ => rfl
theorem strD_isi {S : Sto} {x : Str} : isiD "tuple" S (.str x) = some false := rfl
theorem pIsi {B : Sto} {a : Den} {ε : Env} {d : D} {t : Bool} {cn : String} (ha : ZE a ε d) (h : ∀ S, isiD cn S d = some t) : PurB B (dTest (dIsi cn a)) ε t := fun S _ => ⟨[], by rw [eTest (eIsi (eZ ha) (h S))]; simp⟩
section
variable {rules : List Rule} {j A : Nat} {rw' : List RW}
def RwOk (rules : List Rule) (rw' : List RW) (j A : Nat) : Prop := ∀ i < j, ∃ r f, rules[i]? = some r ∧ rw'[i]? = some f ∧ r.hs.Nodup ∧ r.ns.length ≤ 100 ∧ r.hs.length ≤ 100 ∧
  ∀ (B : Sto) (ρ n : Nat) (ws : List Int), ws.length = r.hs.length → A ≤ n → WEnv B ρ (hwOf r.hs ws) → PurR B (csem n .f__law_weight [encRs rules, enc r.b, .ref ρ]) (.int (f ws))
/-- the inner parts' weights -/
theorem inner_sem {B : Sto} {n r : Nat} {hw : Str → Int} {ε : Env} {wd : Str} {ds : List D} {ps : List Deed} {xs : List Str} {dd : D} (h0 : ε = [some (encRs rules), some (.tup (.str wd :: ds)), some (.ref r), some (.str wd), none, none, none, none, none]) (hds : ds = xs.map D.str ++ ps.map enc) (hl : xs.length + ps.length ≤ 100)
    (I : ∀ q ∈ ps, PurR B (csem n .f__law_weight [encRs rules, enc q, .ref r]) (.int (wt rw' hw q))) :
    PurL B (dLc (iAny (dSl (dVar 1) (dPart (dC (.int 1))) dNoPart)) (gN 8) (dTest (dIsi "tuple" (dVar 8))) (dCall 3 (csem n .f__law_weight) (dCons (dVar 0) (dCons (dVar 8) (dCons (dVar 2) dNil)))) [8]) ε ((ps.map (wt rw' hw)).map .int) := by
  subst h0
  have hi : PurI B (iAny (dSl (dVar 1) (dPart (dC (.int 1))) dNoPart)) [some (encRs rules), some (.tup (.str wd :: ds)), some (.ref r), some (.str wd), none, none, none, none, none] ds := by
    have := piTup (B := B) (pSl0 (a := dVar 1) (b := dC (.int 1)) (ε := [some (encRs rules), some (.tup (.str wd :: ds)), some (.ref r), some (.str wd), none, none, none, none, none]) (j := 1) (pV (i := 1) (d := .tup (.str wd :: ds))) pC)
    have e : cutD (.str wd :: ds) (some 1) none = ds := by
      unfold cutD
      rw [show (some (1 : Int)) = some ((1 : Nat) : Int) from rfl, HT.sIx_nat, HT.sIx_none, Nat.min_eq_left (by simp)]
      simp
    rw [e] at this
    exact this
  have h := pLc2 (g := gN 8) (vs := [8]) (c := dTest (dIsi "tuple" (dVar 8))) (e := dCall 3 (csem n .f__law_weight) (dCons (dVar 0) (dCons (dVar 8) (dCons (dVar 2) dNil)))) (xs.map (fun _ => (none : Option D)) ++ ps.map fun q => some (.int (wt rw' hw q))) hi (by rw [hds]; simp) (fun i x o h1 h2 => by
    refine ⟨_, fun S => rfl, ?_⟩
    rw [hds] at h1
    by_cases hx : i < xs.length
    · rw [List.getElem?_append_left (by simpa using hx), List.getElem?_map, List.getElem?_eq_getElem hx] at h1 h2
      cases h1; cases h2
      exact ⟨pIsi zV fun _ => strD_isi, fun v q => by cases q⟩
    · rw [List.getElem?_append_right (by simp; omega), List.getElem?_map, List.length_map] at h1 h2
      cases hp : ps[i - xs.length]? with
      | none => rw [hp] at h1; cases h1
      | some q =>
        rw [hp] at h1 h2
        cases h1; cases h2
        exact ⟨pIsi zV fun _ => tupD_isi q, fun v e => by
          cases e
          exact pCallR (pK pV (pK pV (pK pV pN))) (I q (List.mem_of_getElem? hp))⟩) (by rw [hds]; simp; omega)
  have e : List.filterMap id (xs.map (fun _ => (none : Option D)) ++ ps.map fun q => some (D.int (wt rw' hw q))) = (ps.map (wt rw' hw)).map .int := by
    rw [List.filterMap_append, List.filterMap_map, List.filterMap_map]
    have a : List.filterMap (id ∘ fun _ : Str => (none : Option D)) xs = [] := by induction xs <;> simp_all
    rw [a]
    simp [List.map_map, Function.comp_def]
  rw [e] at h
  exact h
/-- .. of most deeds -/
theorem wt_plain {B : Sto} {n r : Nat} {hw : Str → Int} {wd : Str} {ds : List D} {ps : List Deed} {xs : List Str} (hwd : wd ∈ (["write", "say", "let", "own", "if", "then", "add", "less"] : List Str)) (hds : ds = xs.map D.str ++ ps.map enc) (hl : xs.length + ps.length ≤ 100)
    (I : ∀ q ∈ ps, PurR B (csem (n + 1) .f__law_weight [encRs rules, enc q, .ref r]) (.int (wt rw' hw q))) : PurR B (csem (n + 2) .f__law_weight [encRs rules, .tup (.str wd :: ds), .ref r]) (.int (1 + (ps.map (wt rw' hw)).sum)) := by
  rw [cs_f__law_weight]
  refine pur_runR ?_
  unfold b_f__law_weight
  refine pLet (pZ (zG zV atI_0)) (fun _ => rfl) ?_
  have t1 : ∀ {ε : Env}, ε[3]? = some (some (.str wd)) → ZB (dTest (dBin oIn (dVar 3) (dTup (dCons (dC (.str "number")) (dCons (dC (.str "name")) (dCons (dC (.str "ask")) (dCons (dC (.str "read")) dNil))))))) ε false := fun {ε} h => by
    simp only [List.mem_cons, List.not_mem_nil, or_false] at hwd
    rcases hwd with rfl | rfl | rfl | rfl | rfl | rfl | rfl | rfl
    all_goals exact zIn (qs := ["number", "name", "ask", "read"]) (zV h) (fun _ => rfl)
  have t2 : ∀ {ε : Env} (q : Str), q ∈ (["do", "call", "loop"] : List Str) → ε[3]? = some (some (.str wd)) → ZB (dTest (dBin oEq (dVar 3) (dC (.str q)))) ε false := fun {ε} q hq h => by
    have : ∀ a ∈ (["write", "say", "let", "own", "if", "then", "add", "less"] : List Str), ∀ b ∈ (["do", "call", "loop"] : List Str), decide (a = b) = false := by decide +kernel
    exact zEqS (zV h) (this wd hwd q hq)
  refine pSkip (pZB (t1 rfl)) (pSkip (pZB (t2 "do" (by simp) rfl)) (pSkip (pZB (t2 "call" (by simp) rfl)) ?_))
  refine pLetL (inner_sem (dd := .non) rfl hds hl I) (fun _ _ => rfl) fun B' k hB hk => ?_
  exact pSkip (pZB (t2 "loop" (by simp) rfl)) (pRet (pAdd pC (pSumR pV hk)))
end
end DL

set_option Elab.async false
set_option linter.all false
set_option maxRecDepth 100000
set_option maxHeartbeats 1000000
namespace DL
open PySem L2
section
variable {rules : List Rule} {j A : Nat} {rw' : List RW} {B : Sto} {n r : Nat} {hw : Str → Int}
theorem wt_leaf {wd : Str} {ds : List D} (hwd : wd ∈ (["number", "name", "ask", "read"] : List Str)) : PurR B (csem (n + 2) .f__law_weight [encRs rules, .tup (.str wd :: ds), .ref r]) (.int 1) := by
  rw [cs_f__law_weight]
  refine pur_runR ?_
  unfold b_f__law_weight
  refine pLet (pZ (zG zV atI_0)) (fun _ => rfl) ?_
  refine pTake (pZB (zIn (qs := ["number", "name", "ask", "read"]) zV (fun _ => rfl) (by simp) (decide_eq_true hwd))) (pRet pC)
theorem wt_dod {x : Str} (hW : WEnv B r hw) : PurR B (csem (n + 2) .f__law_weight [encRs rules, enc (.dod x), .ref r]) (.int (hw x)) := by
  rw [cs_f__law_weight]
  refine pur_runR ?_
  unfold b_f__law_weight
  refine pLet (pZ (zG zV)) (fun _ => rfl) ?_
  exact pSkip (pZB (zIn (qs := ["number", "name", "ask", "read"]) zV (fun _ => rfl))) (pTake (pZB (zEqS zV)) (pRet (pGet2 hW zV (zG zV) zC)))
theorem wt_lop {a b : Deed} (Ia : PurR B (csem (n + 1) .f__law_weight [encRs rules, enc a, .ref r]) (.int (wt rw' hw a))) (Ib : PurR B (csem (n + 1) .f__law_weight [encRs rules, enc b, .ref r]) (.int (wt rw' hw b))) :
    PurR B (csem (n + 2) .f__law_weight [encRs rules, enc (.two .lop a b), .ref r]) (.int (1 + wt rw' hw a + 3 * wt rw' hw b)) := by
  rw [cs_f__law_weight]
  refine pur_runR ?_
  unfold b_f__law_weight
  refine pLet (pZ (zG zV)) (fun _ => rfl) ?_
  refine pSkip (pZB (zIn (qs := ["number", "name", "ask", "read"]) (zV (d := .str "loop")) (fun _ => rfl))) (pSkip (pZB (zEqS (zV (d := .str "loop")))) (pSkip (pZB (zEqS (zV (d := .str "loop")))) ?_))
  refine pLetL (inner_sem (rw' := rw') (hw := hw) (xs := []) (ps := [a, b]) (dd := .non) (wd := "loop") (ds := [enc a, enc b]) rfl rfl (by simp) (fun q hq => by
    simp only [List.mem_cons, List.not_mem_nil, or_false] at hq
    rcases hq with rfl | rfl
    · exact Ia
    · exact Ib)) (fun _ _ => rfl) fun B' k hB hk => ?_
  refine pTake (pZB (zEqS (zV (d := .str "loop")))) (pRet (pAdd (pAdd pC (pGetL (i := 0) pV hk rfl)) (pMulL pC (pGetL (i := 0) pV hk rfl))))
theorem wt_call {i : Nat} {ps hs : List Deed} {ru : Rule} {f : RW} (e1 : rules[i]? = some ru) (nd : ru.hs.Nodup) (hh : ru.hs.length = hs.length) (hpl : ps.length ≤ 1000) (hhl : hs.length ≤ 1000)
    (Ip : ∀ q ∈ ps, PurR B (csem (n + 1) .f__law_weight [encRs rules, enc q, .ref r]) (.int (wt rw' hw q))) (Ih : ∀ q ∈ hs, PurR B (csem (n + 1) .f__law_weight [encRs rules, enc q, .ref r]) (.int (wt rw' hw q)))
    (body : ∀ (B' : Sto) (ρ : Nat), WEnv B' ρ (hwOf ru.hs (wtL rw' hw hs)) → PurR B' (csem (n + 1) .f__law_weight [encRs rules, enc ru.b, .ref ρ]) (.int (f (wtL rw' hw hs)))) :
    PurR B (csem (n + 2) .f__law_weight [encRs rules, enc (.call i ps hs), .ref r]) (.int (1 + (wtL rw' hw ps).sum + f (wtL rw' hw hs))) := by
  rw [cs_f__law_weight]
  refine pur_runR ?_
  unfold b_f__law_weight
  refine pLet (pZ (zG zV)) (fun _ => rfl) ?_
  have il : i < rules.length := (List.getElem?_eq_some_iff.mp e1).1
  have ai : atI rules (i : Int) = some ru := by rw [atI_in (by omega) (by omega), Int.toNat_natCast, e1]
  refine pSkip (pZB (zIn (qs := ["number", "name", "ask", "read"]) zV (fun _ => rfl))) (pSkip (pZB (zEqS zV)) (pTake (pZB (zEqS zV)) ?_))
  -- there
  let ws := wtL rw' hw hs
  have hws : ws.length = hs.length := by show (wtL rw' hw hs).length = _; rw [wtL_map]; simp
  let z : List (Str × D) := ru.hs.zip (ws.map .int)
  have zk : z.map (·.1) = ru.hs := List.map_fst_zip (by simp [hws, hh])
  have it1 : PurI B (iZipD (dBin oGet (dBin oGet (dVar 0) (dBin oGet (dVar 1) (dC (.int 1)))) (dC (.int 1))) (dBin oGet (dVar 1) (dC (.int 3)))) [some (encRs rules), some (enc (.call i ps hs)), some (.ref r), some (.str "call"), none, none, none, none, none] (pairs (ru.hs.map .str) (encs hs)) :=
    piZip (xs := ru.hs.map .str) (ys := encs hs) (pO (d := encR ru) (e := .int 1) (pGetRule (i := (i : Int)) pV (pZ (zG zV)) ai) pC fun S => rfl) (pZ (zG zV))
  have pl : (pairs (ru.hs.map D.str) (encs hs)).length = hs.length := by rw [pairs_ln (by rw [encs_map]; simpa using hh), List.length_map, hh]
  have lc1 := pLc3 (g := gT 2 (gsCons (gN 7) (gsCons (gN 8) gsNil))) (vs := [7, 8]) (e := dTup (dCons (dVar 7) (dCons (dCall 3 (csem (n + 1) .f__law_weight) (dCons (dVar 0) (dCons (dVar 8) (dCons (dVar 2) dNil)))) dNil))) (z.map fun q => D.tup [.str q.1, q.2]) it1 (by rw [pl]; simp [z, hws, hh]) (fun k x o h1 h2 => by
    have hk : k < hs.length := by
      have := (List.getElem?_eq_some_iff.mp h1).1
      omega
    have e := pairs_ix (xs := ru.hs.map D.str) (ys := encs hs) (i := k) (a := .str ru.hs[k]) (b := enc hs[k]) (by rw [List.getElem?_map, List.getElem?_eq_getElem (by omega)]; rfl) (by rw [encs_map, List.getElem?_map, List.getElem?_eq_getElem hk]; rfl)
    rw [h1] at e
    cases e
    have ez : z[k]? = some (ru.hs[k], .int (wt rw' hw hs[k])) := by
      show (ru.hs.zip (ws.map D.int))[k]? = _
      rw [List.getElem?_zip_eq_some]
      refine ⟨List.getElem?_eq_getElem (by omega), ?_⟩
      show ((wtL rw' hw hs).map D.int)[k]? = _
      rw [wtL_map, List.map_map, List.getElem?_map, List.getElem?_eq_getElem hk]
      rfl
    rw [List.getElem?_map, ez] at h2
    cases h2
    exact ⟨_, fun S => rfl, pT (pK pV (pK (pCallR (pK pV (pK pV (pK pV pN))) (Ih _ (List.getElem_mem hk))) pN))⟩) (by omega)
  have em : mergeD [] (z.map fun q => ((.inr q.1 : Key), q.2)) = z.map fun q => ((.inr q.1 : Key), q.2) := by
    rw [mergeD_new _ [] (by
      rw [List.nil_append, List.map_map]
      have : ((·.1) ∘ fun q : Str × D => ((.inr q.1 : Key), q.2)) = Sum.inr ∘ (·.1) := rfl
      rw [this, ← List.map_map, zk]
      exact nodup_map (fun a b q => Sum.inr.inj q) nd)]
    rfl
  refine pLetD lc1 (fall_pairs (f := Prod.fst) (g := Prod.snd) z) (fun _ _ => rfl) fun B' k hB hk => ?_
  rw [em] at hk
  have hWk : WEnv B' k (hwOf ru.hs ws) := ⟨_, hk, fun x => by
    rw [valD_lookup]
    show ((ru.hs.zip (ws.map D.int)).lookup x).getD (.int 1) = .int (((ru.hs.zip ws).lookup x).getD 1)
    rw [lk_map]
    cases (ru.hs.zip ws).lookup x <;> rfl⟩
  -- the worths
  have it2 : PurI B' (iAny (dBin oGet (dVar 1) (dC (.int 2)))) [some (encRs rules), some (enc (.call i ps hs)), some (.ref r), some (.str "call"), some (.ref k), none, none, none, none] (encs ps) := piTup (pZ (zG zV))
  have lc2 := pLc3 (g := gN 8) (vs := [8]) (e := dCall 3 (csem (n + 1) .f__law_weight) (dCons (dVar 0) (dCons (dVar 8) (dCons (dVar 2) dNil)))) ((wtL rw' hw ps).map D.int) it2 (by rw [encs_map, wtL_map]; simp) (fun k x o h1 h2 => by
    rw [encs_map, List.getElem?_map] at h1
    rw [wtL_map, List.map_map, List.getElem?_map] at h2
    cases hp : ps[k]? with
    | none => rw [hp] at h1; cases h1
    | some q =>
      rw [hp] at h1 h2
      cases h1; cases h2
      exact ⟨_, fun S => rfl, pCallR (pK pV (pK pV (pK pV pN))) ((Ip q (List.mem_of_getElem? hp)).up hB)⟩) (by rw [encs_map]; simpa using hpl)
  refine pLet (pSumL lc2) (fun _ => rfl) ?_
  refine pRet (pAdd (pAdd pC pV) (pCallR (pK pV (pK (pO (d := encR ru) (e := .int 2) (pGetRule (i := (i : Int)) pV (pZ (zG zV)) ai) pC fun S => rfl) (pK pV pN))) (body B' k hWk)))
mutual
theorem weight_sem (RO : RwOk rules rw' j A) : ∀ (d : Deed) (k n : Nat) {K : List Str} {B : Sto} {r : Nat} {hw : Str → Int}, dep d ≤ k → okD (szs (rules.take j)) K d → WEnv B r hw → k + 2 + A ≤ n → PurR B (csem n .f__law_weight [encRs rules, enc d, .ref r]) (.int (wt rw' hw d))
  | _, _, 0, _, _, _, _, _, _, _, h => by omega
  | _, _, 1, _, _, _, _, _, _, _, h => by omega
  | .num i, k, n + 2, K, B, r, hw, _, _, _, _ => wt_leaf (by simp)
  | .nam i, k, n + 2, K, B, r, hw, _, _, _, _ => wt_leaf (by simp)
  | .ask, k, n + 2, K, B, r, hw, _, _, _, _ => wt_leaf (by simp)
  | .rd i, k, n + 2, K, B, r, hw, _, _, _, _ => wt_leaf (by simp)
  | .dod x, k, n + 2, K, B, r, hw, _, _, hW, _ => wt_dod hW
  | .wr x a, k, n + 2, K, B, r, hw, hk, h, hW, hn => by
    simp only [dep] at hk
    exact wt_plain (xs := [x]) (ps := [a]) (ds := [.str x, enc a]) (by simp) rfl (by simp) (fun q hq => by
      rw [List.mem_singleton.mp hq]
      exact weight_sem RO a (k - 1) (n + 1) (by omega) h.2 hW (by omega))
  | .say a, k, n + 2, K, B, r, hw, hk, h, hW, hn => by
    simp only [dep] at hk
    exact wt_plain (xs := []) (ps := [a]) (ds := [enc a]) (by simp) rfl (by simp) (fun q hq => by
      rw [List.mem_singleton.mp hq]
      exact weight_sem RO a (k - 1) (n + 1) (by omega) h hW (by omega))
  | .lt x a b, k, n + 2, K, B, r, hw, hk, h, hW, hn => by
    simp only [dep] at hk
    have Ia := weight_sem RO a (k - 1) (n + 1) (by omega) h.2.1 hW (by omega)
    have Ib := weight_sem RO b (k - 1) (n + 1) (by omega) h.2.2 hW (by omega)
    exact wt_plain (xs := [x]) (ps := [a, b]) (ds := [.str x, enc a, enc b]) (by simp) rfl (by simp) (fun q hq => by
      simp only [List.mem_cons, List.not_mem_nil, or_false] at hq
      rcases hq with e | e
      · rw [e]; exact Ia
      · rw [e]; exact Ib)
  | .own x a b, k, n + 2, K, B, r, hw, hk, h, hW, hn => by
    simp only [dep] at hk
    have Ia := weight_sem RO a (k - 1) (n + 1) (by omega) h.2.1 hW (by omega)
    have Ib := weight_sem RO b (k - 1) (n + 1) (by omega) h.2.2 hW (by omega)
    exact wt_plain (xs := [x]) (ps := [a, b]) (ds := [.str x, enc a, enc b]) (by simp) rfl (by simp) (fun q hq => by
      simp only [List.mem_cons, List.not_mem_nil, or_false] at hq
      rcases hq with e | e
      · rw [e]; exact Ia
      · rw [e]; exact Ib)
  | .iff a b c, k, n + 2, K, B, r, hw, hk, h, hW, hn => by
    simp only [dep] at hk
    have Ia := weight_sem RO a (k - 1) (n + 1) (by omega) h.1 hW (by omega)
    have Ib := weight_sem RO b (k - 1) (n + 1) (by omega) h.2.1 hW (by omega)
    have Ic := weight_sem RO c (k - 1) (n + 1) (by omega) h.2.2 hW (by omega)
    exact wt_plain (xs := []) (ps := [a, b, c]) (ds := [enc a, enc b, enc c]) (by simp) rfl (by simp) (fun q hq => by
      simp only [List.mem_cons, List.not_mem_nil, or_false] at hq
      rcases hq with e | e | e
      · rw [e]; exact Ia
      · rw [e]; exact Ib
      · rw [e]; exact Ic)
  | .two w a b, k, n + 2, K, B, r, hw, hk, h, hW, hn => by
    simp only [dep] at hk
    have Ia := weight_sem RO a (k - 1) (n + 1) (by omega) h.1 hW (by omega)
    have Ib := weight_sem RO b (k - 1) (n + 1) (by omega) h.2 hW (by omega)
    have hp : ∀ q ∈ [a, b], PurR B (csem (n + 1) .f__law_weight [encRs rules, enc q, .ref r]) (.int (wt rw' hw q)) := fun q hq => by
      simp only [List.mem_cons, List.not_mem_nil, or_false] at hq
      rcases hq with e | e
      · rw [e]; exact Ia
      · rw [e]; exact Ib
    cases w with
    | lop => exact wt_lop Ia Ib
    | thn => exact wt_plain (xs := []) (ps := [a, b]) (ds := [enc a, enc b]) (by simp [Two.w]) rfl (by simp) hp
    | add => exact wt_plain (xs := []) (ps := [a, b]) (ds := [enc a, enc b]) (by simp [Two.w]) rfl (by simp) hp
    | les => exact wt_plain (xs := []) (ps := [a, b]) (ds := [enc a, enc b]) (by simp [Two.w]) rfl (by simp) hp
  | .call i ps hs, k, n + 2, K, B, r, hw, hk, h, hW, hn => by
    simp only [dep] at hk
    have hsz := h.1
    rw [szs_take] at hsz
    have hij : i < j := by
      have := (List.getElem?_eq_some_iff.mp hsz).1
      rw [List.length_take] at this
      omega
    rw [List.getElem?_take_of_lt hij] at hsz
    obtain ⟨ru, f, e1, e2, nd, l1, l2, body⟩ := RO i hij
    have hl1 : ru.ns.length = ps.length ∧ ru.hs.length = hs.length := by
      unfold szs at hsz
      rw [List.getElem?_map, e1] at hsz
      simpa using hsz
    have := wt_call (rw' := rw') (hw := hw) (f := f) (B := B) (n := n) (r := r) e1 nd hl1.2 (by omega) (by omega) (fun q hq => weights_sem RO ps (k - 1) (n + 1) (by omega) h.2.1 hW (by omega) q hq) (fun q hq => weights_sem RO hs (k - 1) (n + 1) (by omega) h.2.2 hW (by omega) q hq)
      (fun B' ρ hW' => body B' ρ (n + 1) _ (by rw [wtL_map]; simp; omega) (by omega) hW')
    unfold wt
    simp only [e2, Option.getD_some]
    exact this
theorem weights_sem (RO : RwOk rules rw' j A) : ∀ (ds : List Deed) (k n : Nat) {K : List Str} {B : Sto} {r : Nat} {hw : Str → Int}, deps ds ≤ k → okDs (szs (rules.take j)) K ds → WEnv B r hw → k + 2 + A ≤ n → ∀ q ∈ ds, PurR B (csem n .f__law_weight [encRs rules, enc q, .ref r]) (.int (wt rw' hw q))
  | [], k, n, K, B, r, hw, _, _, _, _, q, hq => by cases hq
  | a :: ds, k, n, K, B, r, hw, hk, h, hW, hn, q, hq => by
    simp only [deps] at hk
    by_cases e : q = a
    · rw [e]
      exact weight_sem RO a k n (by omega) h.1 hW hn
    · exact weights_sem RO ds k n (by omega) h.2 hW hn q (by rcases List.mem_cons.mp hq with z | z; · exact absurd z e
                                                             · exact z)
end
end
end DL

set_option Elab.async false
set_option linter.all false
set_option maxRecDepth 100000
set_option maxHeartbeats 1000000
namespace DL
open PySem L2
theorem rw_ok {rules : List Rule} (R : RsRun rules) : ∀ j, j ≤ rules.length → RwOk rules (rwt (rules.take j)) j (4 * j)
  | 0, _ => fun i h => by omega
  | j + 1, hj => by
    intro i hi
    have il : i < rules.length := by omega
    have ih := rw_ok R i (by omega)
    have e1 : rules[i]? = some rules[i] := List.getElem?_eq_getElem il
    have o := R.ok i _ e1
    have hm := List.getElem_mem il
    have e2 := rwt_get (rules.take (j + 1)) i rules[i] (take_all e1 _ hi)
    rw [List.take_take, Nat.min_eq_left (by omega)] at e2
    refine ⟨rules[i], _, e1, e2, o.nh, (R.sz _ hm).1, (R.sz _ hm).2, fun B ρ n ws hw hn hW => ?_⟩
    exact weight_sem ih rules[i].b 2 n (R.dep _ hm) o.b hW (by omega)
/-! ### no more is written than the weight -/
structure Gb1 (a b : Stt) (w : Int) : Prop where
  m : (b.marks.length : Int) ≤ a.marks.length + w
  s : (b.spoken.length : Int) ≤ a.spoken.length + w
  c : (b.cells.length : Int) ≤ a.cells.length + w
def Gb (t : Thk) (w : Int) : Prop := ∀ st, Gb1 st (t st).2 w
theorem Gb1.trans {a b c : Stt} {v w : Int} (x : Gb1 a b v) (y : Gb1 b c w) : Gb1 a c (v + w) := ⟨by have := x.m; have := y.m; omega, by have := x.s; have := y.s; omega, by have := x.c; have := y.c; omega⟩
theorem Gb1.mono {a b : Stt} {v w : Int} (x : Gb1 a b v) (h : v ≤ w) : Gb1 a b w := ⟨by have := x.m; omega, by have := x.s; omega, by have := x.c; omega⟩
theorem Gb1.refl {a : Stt} {w : Int} (h : 0 ≤ w) : Gb1 a a w := ⟨by omega, by omega, by omega⟩
theorem gb_pos {t : Thk} {w : Int} (g : Grow t) (h : Gb t w) : 0 ≤ w := by
  have a := (g ⟨fun _ => 0, [], 0, [], [], []⟩).m
  have b := (h ⟨fun _ => 0, [], 0, [], [], []⟩).m
  omega
theorem gb_iter {t : Thk} {w : Int} (h : Gb t w) (hw : 0 ≤ w) : ∀ (n : Nat) (st : Stt), Gb1 st (iterT t n st) (n * w)
  | 0, st => Gb1.refl (by simp)
  | n + 1, st => by
    have := (h st).trans (gb_iter h hw n (t st).2)
    refine this.mono ?_
    have : ((n + 1 : Nat) : Int) * w = n * w + w := by rw [Int.natCast_add, Int.add_mul]; simp
    omega
def GbE (env : Ev) (hw : Str → Int) : Prop := (∀ x, 0 ≤ hw x) ∧ ∀ x t, env x = some (.th t) → Gb t (hw x)
def GbL (ts : List Thk) (ws : List Int) : Prop := ts.length = ws.length ∧ ∀ (k : Nat) (t : Thk) (w : Int), ts[k]? = some t → ws[k]? = some w → Gb t w ∧ 0 ≤ w
def GbR (rs : List RS) (rw : List RW) : Prop := ∀ (i : Nat) (ws : List Int) (ts : List Thk) (hws : List Int), (∀ t ∈ ts, Grow t) → GbL ts hws → Gb (((rs[i]?).getD fun _ _ st => (0, st)) ws ts) (((rw[i]?).getD fun _ => 0) hws)
theorem GbE.put {env : Ev} {hw : Str → Int} {x : Str} {v : EV} (h : GbE env hw) (hv : ∀ t, v ≠ .th t) : GbE (putE x v env) hw := ⟨h.1, fun y t e => by
  unfold putE at e
  split at e
  · cases e; exact absurd rfl (hv t)
  · exact h.2 y t e⟩
theorem getD_grow {rs : List RS} (gr : GrowR rs) (i : Nat) (ws : List Int) {ts : List Thk} (ht : ∀ t ∈ ts, Grow t) : Grow (((rs[i]?).getD fun _ _ st => (0, st)) ws ts) := by
  cases e : rs[i]? with
  | none => exact fun st => .refl
  | some f => exact gr f (List.mem_of_getElem? e) _ _ ht
mutual
theorem den_wt {rs : List RS} {rw : List RW} (gr : GrowR rs) (hr : GbR rs rw) : ∀ (d : Deed) {env : Ev} {hw : Str → Int}, GrowE env → GbE env hw → Gb (den rs d env) (wt rw hw d)
  | .num i, env, hw, _, h => fun st => by unfold den wt; exact .refl (by decide)
  | .nam x, env, hw, _, h => fun st => by unfold den wt; split <;> exact .refl (by decide)
  | .dod x, env, hw, _, h => fun st => by
    unfold den wt
    split
    · rename_i t e; exact h.2 x t e st
    · exact .refl (h.1 x)
  | .ask, env, hw, _, h => fun st => by unfold den wt; exact ⟨by simp [tAskd] <;> omega, by simp [tAskd] <;> omega, by simp [tAskd] <;> omega⟩
  | .rd x, env, hw, _, h => fun st => by
    unfold den wt
    split
    · exact .refl (by decide)
    · exact ⟨by simp [tRead] <;> omega, by simp [tRead] <;> omega, by simp [tRead] <;> omega⟩
  | .wr x a, env, hw, ge, h => fun st => by
    have ga := den_wt gr hr a ge h st
    unfold den wt
    split
    · exact (ga.trans (c := (den rs a env st).2.setC _ _) (w := 1) ⟨by simp [Stt.setC] <;> omega, by simp [Stt.setC] <;> omega, by simp [Stt.setC] <;> omega⟩).mono (by simp; omega)
    · exact (ga.trans (c := (tWrt x (den rs a env st).1 (den rs a env st).2).2) (w := 1) ⟨by simp [tWrt] <;> omega, by simp [tWrt] <;> omega, by simp [tWrt] <;> omega⟩).mono (by simp; omega)
  | .say a, env, hw, ge, h => fun st => by
    have ga := den_wt gr hr a ge h st
    unfold den wt
    exact (ga.trans (c := (tSayd (den rs a env st).1 (den rs a env st).2).2) (w := 1) ⟨by simp [tSayd] <;> omega, by simp [tSayd] <;> omega, by simp [tSayd] <;> omega⟩).mono (by simp; omega)
  | .lt x a b, env, hw, ge, h => fun st => by
    have ga := den_wt gr hr a ge h st
    have gb := den_wt gr hr b (putE_grow_int ge x (den rs a env st).1) (h.put (x := x) (v := .int (den rs a env st).1) fun t e => by cases e) (den rs a env st).2
    unfold den wt
    exact (ga.trans gb).mono (by simp; omega)
  | .own x a b, env, hw, ge, h => fun st => by
    have ga := den_wt gr hr a ge h st
    have gb := den_wt gr hr b (putE_grow_cell ge x (den rs a env st).2.cells.length) (h.put (x := x) (v := .cell (den rs a env st).2.cells.length) fun t e => by cases e) ((den rs a env st).2.push (den rs a env st).1)
    unfold den wt
    exact ((ga.trans (c := (den rs a env st).2.push (den rs a env st).1) (w := 1) ⟨by simp [Stt.push] <;> omega, by simp [Stt.push] <;> omega, by simp [Stt.push] <;> omega⟩).trans gb).mono (by simp; omega)
  | .iff a b c, env, hw, ge, h => fun st => by
    have ga := den_wt gr hr a ge h st
    have pb := gb_pos (den_grow gr b ge) (den_wt gr hr b ge h)
    have pc := gb_pos (den_grow gr c ge) (den_wt gr hr c ge h)
    unfold den wt
    split
    · exact (ga.trans (den_wt gr hr b ge h _)).mono (by simp; omega)
    · exact (ga.trans (den_wt gr hr c ge h _)).mono (by simp; omega)
  | .two .thn a b, env, hw, ge, h => fun st => by
    unfold den wt
    exact ((den_wt gr hr a ge h st).trans (den_wt gr hr b ge h _)).mono (by simp; omega)
  | .two .add a b, env, hw, ge, h => fun st => by
    unfold den wt
    exact ((den_wt gr hr a ge h st).trans (den_wt gr hr b ge h _)).mono (by simp; omega)
  | .two .les a b, env, hw, ge, h => fun st => by
    unfold den wt
    exact ((den_wt gr hr a ge h st).trans (den_wt gr hr b ge h _)).mono (by simp; omega)
  | .two .lop a b, env, hw, ge, h => fun st => by
    have pb := gb_pos (den_grow gr b ge) (den_wt gr hr b ge h)
    unfold den wt
    refine ((den_wt gr hr a ge h st).trans (gb_iter (den_wt gr hr b ge h) pb _ _)).mono ?_
    have h1 := Int.emod_lt_of_pos (den rs a env st).1 (show (0 : Int) < 4 by decide)
    have h2 : (((den rs a env st).1 % 4).toNat : Int) ≤ 3 := by omega
    have := Int.mul_le_mul_of_nonneg_right h2 pb
    omega
  | .call i ps hs, env, hw, ge, h => fun st => by
    unfold den wt
    have g1 := denL_wt gr hr ps ge h st
    have g2 := hr i (denL rs ps env st).1 (denT rs hs env) (wtL rw hw hs) (denT_grow gr hs ge) (denT_wt gr hr hs ge h) (denL rs ps env st).2
    exact (g1.trans g2).mono (by omega)
theorem denL_wt {rs : List RS} {rw : List RW} (gr : GrowR rs) (hr : GbR rs rw) : ∀ (ds : List Deed) {env : Ev} {hw : Str → Int}, GrowE env → GbE env hw → ∀ st, Gb1 st (denL rs ds env st).2 (wtL rw hw ds).sum
  | [], env, hw, _, h, st => by unfold denL wtL; exact .refl (by simp)
  | d :: ds, env, hw, ge, h, st => by
    unfold denL wtL
    exact ((den_wt gr hr d ge h st).trans (denL_wt gr hr ds ge h _)).mono (by simp)
theorem denT_wt {rs : List RS} {rw : List RW} (gr : GrowR rs) (hr : GbR rs rw) : ∀ (ds : List Deed) {env : Ev} {hw : Str → Int}, GrowE env → GbE env hw → GbL (denT rs ds env) (wtL rw hw ds)
  | [], env, hw, _, h => ⟨rfl, fun k t w e => by simp [denT] at e⟩
  | d :: ds, env, hw, ge, h => by
    obtain ⟨l, q⟩ := denT_wt gr hr ds ge h
    unfold denT wtL
    refine ⟨by simp [l], fun k t w e1 e2 => ?_⟩
    cases k with
    | zero =>
      simp at e1 e2
      subst e1; subst e2
      exact ⟨den_wt gr hr d ge h, gb_pos (den_grow gr d ge) (den_wt gr hr d ge h)⟩
    | succ k => exact q k t w (by simpa using e1) (by simpa using e2)
end
theorem lk_mem {α : Type} {x : Str} {v : α} : ∀ {xs : List Str} {es : List α}, (xs.zip es).lookup x = some v → ∃ i : Nat, xs[i]? = some x ∧ es[i]? = some v ∧ (xs.zip es).lookup x = es[i]?
  | [], _, h => by simp at h
  | a :: xs, [], h => by simp at h
  | a :: xs, b :: es, h => by
    simp only [List.zip_cons_cons, List.lookup_cons] at h ⊢
    by_cases q : x = a
    · subst q
      simp at h
      subst h
      exact ⟨0, by simp⟩
    · have q2 : (x == a) = false := by simpa using q
      rw [q2] at h ⊢
      obtain ⟨i, h1, h2, h3⟩ := lk_mem h
      exact ⟨i + 1, by simpa using h1, by simpa using h2, by simpa using h3⟩
theorem callE_gb {r : Rule} {ws : List Int} {ts : List Thk} {hws : List Int} (h : GbL ts hws) : GbE (callE r ws ts) (hwOf r.hs hws) := by
  refine ⟨fun x => ?_, fun x t e => ?_⟩
  · unfold hwOf
    cases q : (r.hs.zip hws).lookup x with
    | none => decide
    | some w =>
      obtain ⟨i, h1, h2, _⟩ := lk_mem q
      have hi := (List.getElem?_eq_some_iff.mp h2).1
      have hi3 : i < ts.length := by rw [h.1]; exact hi
      exact (h.2 i ts[i] w (List.getElem?_eq_getElem hi3) h2).2
  · unfold callE envOf at e
    rw [List.lookup_append, lk_map, lk_map] at e
    cases h1 : (r.ns.zip ws).lookup x with
    | some v => rw [h1] at e; cases e
    | none =>
      rw [h1] at e
      cases h2 : (r.hs.zip ts).lookup x with
      | none => rw [h2] at e; cases e
      | some t' =>
        rw [h2] at e
        cases e
        have : ∀ (xs : List Str) (es : List Thk) (fs : List Int) , es.length = fs.length → ∀ v, (xs.zip es).lookup x = some v → ∃ k : Nat, es[k]? = some v ∧ (xs.zip fs).lookup x = fs[k]? := by
          intro xs
          induction xs with
          | nil => intro es fs _ v h; simp at h
          | cons a xs ih =>
            intro es fs hl v h
            cases es with
            | nil => simp at h
            | cons b es =>
              cases fs with
              | nil => simp at hl
              | cons f fs =>
                simp only [List.zip_cons_cons, List.lookup_cons] at h ⊢
                split at h
                · cases h; exact ⟨0, by simp⟩
                · obtain ⟨k, h1, h2⟩ := ih es fs (by simpa using hl) v h
                  exact ⟨k + 1, by simpa using h1, by simpa using h2⟩
        obtain ⟨i, b, key⟩ := this r.hs ts hws h.1 _ h2
        have hi := (List.getElem?_eq_some_iff.mp b).1
        have hi2 : i < hws.length := by rw [← h.1]; exact hi
        have hw : hws[i]? = some hws[i] := List.getElem?_eq_getElem hi2
        unfold hwOf
        rw [key, hw]
        exact (h.2 i _ hws[i] b hw).1
/-- .. of rules -/
theorem rules_gb : ∀ l : List Rule, GbR (rsem l) (rwt l) := snoc_ind (fun i ws ts hws _ _ => by
    have e1 : (rsem [])[i]? = none := by simp [rsem]
    have e2 : (rwt [])[i]? = none := by simp [rwt]
    rw [e1, e2]
    exact fun st => .refl (Int.le_refl 0)) fun l r ih i ws ts hws gt h => by
  rw [rsem_snoc, rwt_snoc]
  by_cases hi : i < l.length
  · rw [List.getElem?_append_left (by rw [rsem_len]; exact hi), List.getElem?_append_left (by rw [rwt_len]; exact hi)]
    exact ih i ws ts hws gt h
  · by_cases e : i = l.length
    · subst e
      rw [List.getElem?_append_right (by rw [rsem_len]; exact Nat.le_refl _), List.getElem?_append_right (by rw [rwt_len]; exact Nat.le_refl _), rsem_len, rwt_len, Nat.sub_self]
      exact den_wt (rsem_grow l) ih r.b (callE_grow gt) (callE_gb h)
    · have e1 : (rsem l ++ [fun ws ts => den (rsem l) r.b (callE r ws ts)])[i]? = none := List.getElem?_eq_none (by simp [rsem_len]; omega)
      have e2 : (rwt l ++ [fun ws => wt (rwt l) (hwOf r.hs ws) r.b])[i]? = none := List.getElem?_eq_none (by simp [rwt_len]; omega)
      rw [e1, e2]
      exact fun st => .refl (Int.le_refl 0)
/-! ### light deeds -/
def env0 : Ev := fun _ => none
theorem run_wt {rules : List Rule} {d : Deed} {s asked : List Int} (h : wt (rwt rules) (fun _ => 1) d ≤ 1000) : Fits (runT rules d s asked).2 := by
  have := den_wt (rsem_grow rules) (rules_gb rules) d (env := fun _ => none) (hw := fun _ => 1) (fun x t e => by cases e) ⟨fun _ => (by decide : (0 : Int) ≤ 1), fun x t e => by cases e⟩ (st0 s asked)
  have a := this.m
  have b := this.s
  have c := this.c
  simp only [st0, List.length_nil] at a b c
  exact ⟨by show (den (rsem rules) d (fun _ => none) (st0 s asked)).2.marks.length < _; simp only [st0]; omega, by show (den (rsem rules) d (fun _ => none) (st0 s asked)).2.spoken.length < _; simp only [st0]; omega, by show (den (rsem rules) d (fun _ => none) (st0 s asked)).2.cells.length < _; simp only [st0]; omega⟩
theorem RsLaw.run {rs : List Rule} (R : RsLaw rs) : RsRun rs := ⟨R.r.ok, R.dep, R.r.len⟩
theorem pick_abcd (ns : List Int) (t : Int) {v : Str} {S : Sto} (hp : atI abcd (drw ns t (abcd.length : Int)) = some v) : oGet (.str "abcd") (.int (drw ns t 4)) S = .ok (.str v) S := by
  have hp' : atI abcd (drw ns t 4) = some v := hp
  have h0 := drw_lo ns t (m := 4) (by decide)
  have h1 := drw_hi ns t (m := 4) (by decide)
  generalize drw ns t 4 = j at hp' h0 h1
  have : j = 0 ∨ j = 1 ∨ j = 2 ∨ j = 3 := by omega
  rcases this with rfl | rfl | rfl | rfl <;> (cases hp'; rfl)
theorem light_sem (ns : List Int) (hl : ns.length ≤ 63) {rs : List Rule} (R : RsLaw rs) (deep n : Nat) (hd : deep ≤ 50) (hn : 2 * deep + 20 ≤ n) (t : Int) (ht : 0 ≤ t) :
    ∃ d, Pur (csem n .f__law_light [scr ns, .int t, .int deep, encRs rs]) (enc d) ∧ okD (szs rs) [] d ∧ dep d ≤ deep ∧ wt (rwt rs) (fun _ => 1) d ≤ 80 := by
  obtain ⟨n, rfl⟩ : ∃ j, n = j + 4 := ⟨n - 4, by omega⟩
  obtain ⟨d, hds, hdo, hdd⟩ := deed_sem ns hl R.r deep (n + 3) t [] [] [] (by omega) ht kn_nil (by simp; omega) (by simp; omega)
  have hdo' : okD (szs rs) [] d := hdo
  have RO := rw_ok R.run rs.length (Nat.le_refl _)
  rw [List.take_length] at RO
  have hW : ∀ S : Sto, PurR [] (fun S => csem (n + 3) .f__law_weight [encRs rs, enc d, .ref S.length] (S ++ [.dct []])) (.int 0) ∨ True := fun _ => .inr trivial
  have wS : ∀ S, ∃ E, dCall 3 (csem (n + 3) .f__law_weight) (dCons (dVar 3) (dCons (dVar 4) (dCons dNewK dNil))) [some (scr ns), some (.int t), some (.int deep), some (encRs rs), some (enc d)] S = .ok (.int (wt (rwt rs) (fun _ => 1) d)) (S ++ E) := fun S => by
    have := weight_sem RO d deep (n + 3) (K := []) (B := S ++ [.dct []]) (r := S.length) (hw := fun _ => 1) hdd (by rw [List.take_length]; exact hdo') ⟨[], by simp, fun x => rfl⟩ (by have := R.len; omega) (S ++ [.dct []]) (List.prefix_refl _)
    obtain ⟨E, e⟩ := this
    refine ⟨[.dct []] ++ E, ?_⟩
    refine eCall (eCons (eZ zV) (eCons (eZ zV) (eCons (rfl : dNewK _ S = .ok (.ref S.length) (S ++ [.dct []])) eNil))) ?_
    rw [e]
    simp
  by_cases hc : wt (rwt rs) (fun _ => 1) d ≤ 80
  · refine ⟨d, ?_, hdo', hdd, hc⟩
    rw [cs_f__law_light]
    refine pur_run ?_
    unfold b_f__law_light
    refine pLet (pCall (pK pV (pK pV (pK pV (pK (pT (pK (pT pN) (pK (pT pN) (pK (pT pN) pN)))) (pK pV pN))))) hds) (fun _ => rfl) ?_
    refine pSkip (pB (pO (fun S _ => wS S) pC fun S => ?_)) (pRet pV)
    rw [x_gtI]
    congr 2
    simp
    omega
  · obtain ⟨v, hv, hp⟩ := drw_pick ns t (l := abcd) (by simp [abcd])
    refine ⟨.rd v, ?_, .inr hv, Nat.zero_le _, by simp [wt]⟩
    rw [cs_f__law_light]
    refine pur_run ?_
    unfold b_f__law_light
    refine pLet (pCall (pK pV (pK pV (pK pV (pK (pT (pK (pT pN) (pK (pT pN) (pK (pT pN) pN)))) (pK pV pN))))) hds) (fun _ => rfl) ?_
    refine pTake (pB (pO (fun S _ => wS S) pC fun S => ?_)) (pRet (pT (pK pC (pK ?_ pN))))
    · rw [x_gtI]
      congr 2
      simp
      omega
    · refine pO pC (pDrawn hl ht (by decide) pV pV pC) fun S => ?_
      exact pick_abcd ns t hp
end DL

set_option Elab.async false
set_option linter.all false
set_option maxRecDepth 100000
set_option maxHeartbeats 1000000
namespace DL
open PySem L2
/-! ### all worths are from 0 to 1008 -/
def In (v : Int) : Prop := 0 ≤ v ∧ v ≤ 1008
theorem in0 : In 0 := ⟨by decide, by decide⟩
structure Rng (st : Stt) : Prop where
  k : ∀ x, In (st.kept x)
  a : ∀ v ∈ st.asked, In v
  c : ∀ v ∈ st.cells, In v
def RngT (t : Thk) : Prop := ∀ st, Rng st → In (t st).1 ∧ Rng (t st).2
def RngE (env : Ev) : Prop := (∀ x v, env x = some (.int v) → In v) ∧ ∀ x t, env x = some (.th t) → RngT t
def RngR (rs : List RS) : Prop := ∀ (i : Nat) (ws : List Int) (ts : List Thk), (∀ w ∈ ws, In w) → (∀ t ∈ ts, RngT t) → RngT (((rs[i]?).getD fun _ _ st => (0, st)) ws ts)
theorem getD_in {l : List Int} (h : ∀ v ∈ l, In v) (i : Nat) : In ((l[i]?).getD 0) := by
  cases e : l[i]? with
  | none => exact in0
  | some v => exact h v (List.mem_of_getElem? e)
theorem RngE.putI {env : Ev} (h : RngE env) {x : Str} {v : Int} (hv : In v) : RngE (putE x (.int v) env) := ⟨fun y w e => by
  unfold putE at e
  split at e
  · cases e; exact hv
  · exact h.1 y w e, fun y t e => by
  unfold putE at e
  split at e
  · cases e
  · exact h.2 y t e⟩
theorem RngE.putC {env : Ev} (h : RngE env) {x : Str} {i : Nat} : RngE (putE x (.cell i) env) := ⟨fun y w e => by
  unfold putE at e
  split at e
  · cases e
  · exact h.1 y w e, fun y t e => by
  unfold putE at e
  split at e
  · cases e
  · exact h.2 y t e⟩
theorem rng_iter {t : Thk} (h : RngT t) : ∀ (n : Nat) (st : Stt), Rng st → Rng (iterT t n st)
  | 0, st, r => r
  | n + 1, st, r => rng_iter h n _ (h st r).2
theorem rng_set {st : Stt} (r : Rng st) {i : Nat} {v : Int} (hv : In v) : Rng (st.setC i v) := ⟨r.k, r.a, fun w hw => by
  rcases List.mem_or_eq_of_mem_set hw with h | h
  · exact r.c w h
  · rw [h]; exact hv⟩
theorem rng_push {st : Stt} (r : Rng st) {v : Int} (hv : In v) : Rng (st.push v) := ⟨r.k, r.a, fun w hw => by
  rcases List.mem_append.mp hw with h | h
  · exact r.c w h
  · rw [List.mem_singleton.mp h]; exact hv⟩
theorem rng_wrt {st : Stt} (r : Rng st) {x : Str} {v : Int} (hv : In v) : Rng (tWrt x v st).2 := ⟨fun y => by
  show In (if y = x then v else st.kept y)
  split
  · exact hv
  · exact r.k y, r.a, r.c⟩
mutual
theorem den_rng {rs : List RS} (hr : RngR rs) {sz : List (Nat × Nat)} : ∀ (d : Deed) {K : List Str} {env : Ev}, okD sz K d → RngE env → RngT (den rs d env)
  | .num i, K, env, ho, h => fun st r => by unfold den; exact ⟨ho, r⟩
  | .nam x, K, env, ho, h => fun st r => by
    unfold den
    split
    · rename_i v e; exact ⟨h.1 x v e, r⟩
    · exact ⟨in0, r⟩
  | .dod x, K, env, ho, h => fun st r => by
    unfold den
    split
    · rename_i t e; exact h.2 x t e st r
    · exact ⟨in0, r⟩
  | .ask, K, env, ho, h => fun st r => by unfold den; exact ⟨getD_in r.a _, r.k, r.a, r.c⟩
  | .rd x, K, env, ho, h => fun st r => by
    unfold den
    split
    · exact ⟨getD_in r.c _, r⟩
    · exact ⟨r.k x, r.k, r.a, r.c⟩
  | .wr x a, K, env, ho, h => fun st r => by
    obtain ⟨v, r1⟩ := den_rng hr a ho.2 h st r
    unfold den
    split
    · exact ⟨v, rng_set r1 v⟩
    · exact ⟨v, rng_wrt r1 v⟩
  | .say a, K, env, ho, h => fun st r => by
    obtain ⟨v, r1⟩ := den_rng hr a ho h st r
    unfold den
    exact ⟨v, r1.k, r1.a, r1.c⟩
  | .lt x a b, K, env, ho, h => fun st r => by
    obtain ⟨v, r1⟩ := den_rng hr a ho.2.1 h st r
    unfold den
    exact den_rng hr b ho.2.2 (h.putI (x := x) v) _ r1
  | .own x a b, K, env, ho, h => fun st r => by
    obtain ⟨v, r1⟩ := den_rng hr a ho.2.1 h st r
    unfold den
    exact den_rng hr b ho.2.2 (h.putC (x := x) (i := (den rs a env st).2.cells.length)) _ (rng_push r1 v)
  | .iff a b c, K, env, ho, h => fun st r => by
    obtain ⟨v, r1⟩ := den_rng hr a ho.1 h st r
    unfold den
    split
    · exact den_rng hr b ho.2.1 h _ r1
    · exact den_rng hr c ho.2.2 h _ r1
  | .two .thn a b, K, env, ho, h => fun st r => by
    obtain ⟨v, r1⟩ := den_rng hr a ho.1 h st r
    unfold den
    exact den_rng hr b ho.2 h _ r1
  | .two .add a b, K, env, ho, h => fun st r => by
    obtain ⟨v, r1⟩ := den_rng hr a ho.1 h st r
    obtain ⟨v2, r2⟩ := den_rng hr b ho.2 h _ r1
    unfold den
    refine ⟨⟨Int.emod_nonneg _ (by decide), ?_⟩, r2⟩
    have := Int.emod_lt_of_pos ((den rs a env st).1 + (den rs b env (den rs a env st).2).1) (show (0 : Int) < 1009 by decide)
    show _ % 1009 ≤ 1008
    omega
  | .two .les a b, K, env, ho, h => fun st r => by
    obtain ⟨v, r1⟩ := den_rng hr a ho.1 h st r
    obtain ⟨v2, r2⟩ := den_rng hr b ho.2 h _ r1
    unfold den
    refine ⟨?_, r2⟩
    show In (if _ then 1 else 0)
    split
    · exact ⟨by decide, by decide⟩
    · exact in0
  | .two .lop a b, K, env, ho, h => fun st r => by
    obtain ⟨v, r1⟩ := den_rng hr a ho.1 h st r
    unfold den
    exact ⟨in0, rng_iter (den_rng hr b ho.2 h) _ _ r1⟩
  | .call i ps hs, K, env, ho, h => fun st r => by
    obtain ⟨v, r1⟩ := denL_rng hr ps ho.2.1 h st r
    unfold den
    exact hr i _ _ v (denT_rng hr hs ho.2.2 h) _ r1
theorem denL_rng {rs : List RS} (hr : RngR rs) {sz : List (Nat × Nat)} : ∀ (ds : List Deed) {K : List Str} {env : Ev}, okDs sz K ds → RngE env → ∀ st, Rng st → (∀ w ∈ (denL rs ds env st).1, In w) ∧ Rng (denL rs ds env st).2
  | [], K, env, ho, h, st, r => by unfold denL; exact ⟨by simp, r⟩
  | d :: ds, K, env, ho, h, st, r => by
    obtain ⟨v, r1⟩ := den_rng hr d ho.1 h st r
    obtain ⟨vs, r2⟩ := denL_rng hr ds ho.2 h _ r1
    unfold denL
    refine ⟨fun w hw => ?_, r2⟩
    rcases List.mem_cons.mp hw with e | e
    · rw [e]; exact v
    · exact vs w e
theorem denT_rng {rs : List RS} (hr : RngR rs) {sz : List (Nat × Nat)} : ∀ (ds : List Deed) {K : List Str} {env : Ev}, okDs sz K ds → RngE env → ∀ t ∈ denT rs ds env, RngT t
  | [], K, env, ho, h, t, m => by unfold denT at m; cases m
  | d :: ds, K, env, ho, h, t, m => by
    unfold denT at m
    rcases List.mem_cons.mp m with e | m
    · rw [e]; exact den_rng hr d ho.1 h
    · exact denT_rng hr ds ho.2 h t m
end
theorem callE_rng {r : Rule} {ws : List Int} {ts : List Thk} (hw : ∀ w ∈ ws, In w) (ht : ∀ t ∈ ts, RngT t) : RngE (callE r ws ts) := by
  have key : ∀ x v, callE r ws ts x = some v → (∃ w ∈ ws, v = .int w) ∨ ∃ t ∈ ts, v = .th t := fun x v e => by
    unfold callE envOf at e
    rw [List.lookup_append, lk_map, lk_map] at e
    cases h1 : (r.ns.zip ws).lookup x with
    | some w =>
      rw [h1] at e
      cases e
      obtain ⟨i, _, b, _⟩ := lk_mem h1
      exact .inl ⟨w, List.mem_of_getElem? b, rfl⟩
    | none =>
      rw [h1] at e
      cases h2 : (r.hs.zip ts).lookup x with
      | none => rw [h2] at e; cases e
      | some t =>
        rw [h2] at e
        cases e
        obtain ⟨i, _, b, _⟩ := lk_mem h2
        exact .inr ⟨t, List.mem_of_getElem? b, rfl⟩
  refine ⟨fun x v e => ?_, fun x t e => ?_⟩
  · rcases key x _ e with ⟨w, h, q⟩ | ⟨t, h, q⟩
    · cases q; exact hw _ h
    · cases q
  · rcases key x _ e with ⟨w, h, q⟩ | ⟨t', h, q⟩
    · cases q
    · cases q; exact ht _ h
theorem rules_rng : ∀ l : List Rule, okRs l → RngR (rsem l) := snoc_ind (fun _ i ws ts _ _ => by
    have e1 : (rsem [])[i]? = none := by simp [rsem]
    rw [e1]
    exact fun st r => ⟨in0, r⟩) fun l r ih ho i ws ts hw ht => by
  have hol : okRs l := fun i r' h => by
    have hi := (List.getElem?_eq_some_iff.mp h).1
    have := ho i r' (by rw [List.getElem?_append_left hi]; exact h)
    rwa [List.take_append_of_le_length (by omega)] at this
  rw [rsem_snoc]
  by_cases hi : i < l.length
  · rw [List.getElem?_append_left (by rw [rsem_len]; exact hi)]
    exact ih hol i ws ts hw ht
  · by_cases e : i = l.length
    · subst e
      rw [List.getElem?_append_right (by rw [rsem_len]; exact Nat.le_refl _), rsem_len, Nat.sub_self]
      have o := ho l.length r (by simp)
      exact den_rng (ih hol) r.b o.b (callE_rng hw ht)
    · have e1 : (rsem l ++ [fun ws ts => den (rsem l) r.b (callE r ws ts)])[i]? = none := List.getElem?_eq_none (by simp [rsem_len]; omega)
      rw [e1]
      exact fun st r => ⟨in0, r⟩
/-! ### what run hands back, as data -/
def pyO (v : Int) (k : Str → Int) (sp : List Int) (many : Nat) : PyData := .tuple [.int v, .tuple (abcd.map fun x => .int (k x)), .list (sp.map .int), .int many]
theorem frz_out {S : Sto} {o : Int × Stt} {sp : Nat} (h : S[sp]? = some (.lst (o.2.spoken.map .int))) : frz deep S (outD o sp) = some (pyO o.1 o.2.kept o.2.spoken o.2.many) := by
  have l : frz (38 + 1) S (.ref sp) = some (.list (o.2.spoken.map .int)) := by
    rw [frz_l h, frz_ints 37 S]
    rfl
  have t : frz (38 + 1) S (.tup (abcd.map fun x => .int (o.2.kept x))) = some (.tuple (abcd.map fun x => .int (o.2.kept x))) := by
    rw [frz_t, fall_map (f := frz 38 S) (g := fun x => D.int (o.2.kept x)) (h := fun x => PyData.int (o.2.kept x)) fun a _ => rfl]
    rfl
  show frz (39 + 1) S (outD o sp) = _
  unfold outD pyO
  rw [frz_t, fall_ok (frz_i (n := 38)), fall_ok t, fall_ok l, fall_ok frz_i, fall_nil]
  rfl
theorem lay_out (v : Int) (k : Str → Int) (sp : List Int) (many : Nat) : SeqAt.shaped (pyO v k sp many) = true :=
  Lay.shaped (k := 3) (.tup (.cons (.int _ _) (.cons (.tup (lays_map fun x _ => .int _ _)) (.cons (.lst ⟨(lay_ints sp).1, (lay_ints sp).2⟩) (.cons (.int _ _) (.nil _)))))) (by decide)
theorem eqv_self {p : PyData} (h : SeqAt.shaped p = true) : PyData.eqv p p = true := SeqAt.eqv_refl p (SeqAt.canLay_of_shaped h)
/-- two that read alike -/
theorem oNe_same {S : Sto} {d e : D} {p : PyData} (hs : sEq d e = none) (h1 : frz deep S d = some p) (h2 : frz deep S e = some p) (sh : SeqAt.shaped p = true) : oNe d e S = .ok (.bl false) S := by
  unfold oNe
  rw [dEq_frz hs h1 h2 sh sh, eqv_self sh]
  rfl
end DL

set_option Elab.async false
set_option linter.all false
set_option maxRecDepth 100000
set_option maxHeartbeats 1000000
namespace DL
open PySem L2
section
variable {B : Sto} {a b c x y : Den} {ba : DenB} {ε : Env} {d : D} {t : Bool} {ds : List D} {g : GDen} {w : SDen} {fl : Fl} {r : DenA} {p : PyData}
theorem pDispL (hr : PurA B r ε ds) (hl : ds.length ≤ 1000 := by simp) : PurL B (dLst r) ε ds := fun S hS => by
  obtain ⟨E, e⟩ := hr S hS
  exact ⟨E, by simp [e, hl]⟩
theorem pAddL {k : Nat} {xs ys : List D} (ha : PurE B a ε (.ref k)) (hk : B[k]? = some (.lst xs)) (hb : PurL B b ε ys) (hl : xs.length + ys.length ≤ 1000) : PurL B (dBin oAdd a b) ε (xs ++ ys) := fun S hS => by
  obtain ⟨E, e1⟩ := ha S hS
  obtain ⟨E2, e2⟩ := hb (S ++ E) (pre_app hS)
  refine ⟨E ++ E2 ++ [.lst ys], ?_⟩
  have h1 := pre_get (pre_app (E := [O.lst ys]) (pre_app (E := E2) (pre_app (E := E) hS))) hk
  refine eBin e1 e2 ?_
  unfold oAdd
  simp only [h1, getLast_app]
  rw [x_mkLst (by simpa using hl)]
  simp
theorem pGetLD {k : Nat} {j : Int} {x : D} (ha : PurE B a ε (.ref k)) (hk : B[k]? = some (.lst ds)) (hb : PurE B b ε (.int j)) (h : atI ds j = some x) : PurE B (dBin oGet a b) ε x := fun S hS => by
  obtain ⟨E, e⟩ := ha S hS
  obtain ⟨E2, e2⟩ := hb (S ++ E) (pre_app hS)
  exact ⟨E ++ E2, by
    rw [← List.append_assoc]
    exact eBin e e2 (eGetL (pre_get (pre_app (pre_app hS)) hk) h)⟩
theorem piRef {k : Nat} (ha : PurE B a ε (.ref k)) (hk : B[k]? = some (.lst ds)) : PurI B (iAny a) ε ds := fun S hS => by
  obtain ⟨E, e⟩ := ha S hS
  refine ⟨E, fun S' => litems S' (.ref k), ?_, fun S' hS' => ?_⟩
  · have q0 : litems (S ++ E) (.ref k) = some ds := by
      unfold litems
      simp only [pre_get (pre_app hS) hk]
    unfold iAny
    rw [e, x_bind]
    simp only [q0]
  · unfold litems
    simp only [pre_get ((pre_app hS).trans hS') hk]
theorem pNeNil (ha : PurL B a ε []) : PurE B (dBin oNe a (dLst dNil)) ε (.bl false) := fun S hS => by
  obtain ⟨E, e⟩ := ha S hS
  refine ⟨E ++ [.lst []] ++ [.lst []], ?_⟩
  have e2 : dLst dNil ε (S ++ E ++ [.lst []]) = .ok (.ref (S ++ E ++ [O.lst []]).length) (S ++ E ++ [.lst []] ++ [.lst []]) := by simp
  have f1 : frz deep (S ++ E ++ [O.lst []] ++ [O.lst []]) (.ref (S ++ E).length) = some (.list []) := by
    show frz (39 + 1) _ _ = _
    rw [frz_l (ds := []) (mid_get (B := [O.lst []]))]
    rfl
  have f2 : frz deep (S ++ E ++ [O.lst []] ++ [O.lst []]) (.ref (S ++ E ++ [O.lst []]).length) = some (.list []) := by
    show frz (39 + 1) _ _ = _
    rw [frz_l (ds := []) getLast_app]
    rfl
  rw [← List.append_assoc, ← List.append_assoc]
  exact eBin e e2 (oNe_same rfl f1 f2 (by decide))
theorem pChain {i j k : Int} (ha : PurE B a ε (.int i)) (hb : PurE B b ε (.int j)) (hc : PurE B c ε (.int k)) : PurE B (dChain oLe oLe a b c) ε (.bl (decide (i ≤ j) && decide (j ≤ k))) := fun S hS => by
  obtain ⟨E, e1⟩ := ha S hS
  obtain ⟨E2, e2⟩ := hb (S ++ E) (pre_app hS)
  unfold dChain
  rw [e1, x_bind, e2, x_bind, x_leI, x_bind]
  by_cases h : i ≤ j
  · obtain ⟨E3, e3⟩ := hc (S ++ E ++ E2) (pre_app (pre_app hS))
    refine ⟨E ++ E2 ++ E3, ?_⟩
    simp only [h, decide_true, e3, x_bind, Bool.true_and]
    rw [x_leI]
    simp
  · refine ⟨E ++ E2, ?_⟩
    simp only [h, decide_false, Bool.false_and]
    simp
/-- a value that reads as data p, a tuple -/
def DataE (B : Sto) (a : Den) (ε : Env) (p : PyData) : Prop := ∀ S, B <+: S → ∃ E ds, a ε S = .ok (.tup ds) (S ++ E) ∧ ∀ T, S ++ E <+: T → frz deep T (.tup ds) = some p
theorem pNeD (ha : DataE B a ε p) (hb : DataE B b ε p) (sh : SeqAt.shaped p = true) : PurE B (dBin oNe a b) ε (.bl false) := fun S hS => by
  obtain ⟨E, ds, e1, f1⟩ := ha S hS
  obtain ⟨E2, es, e2, f2⟩ := hb (S ++ E) (pre_app hS)
  exact ⟨E ++ E2, by
    rw [← List.append_assoc]
    exact eBin e1 e2 (oNe_same rfl (f1 _ (List.prefix_append _ _)) (f2 _ (List.prefix_refl _)) sh)⟩
theorem pUnpack {i j k : Nat} {d1 d2 d3 : D} (ha : PurL B a ε [d1, d2, d3]) (hw : ∀ B', B <+: B' → PurS B' w (((ε.set i (some d1)).set j (some d2)).set k (some d3)) fl) : PurS B (sSeq (sAsg a (gL 3 (gsCons (gN i) (gsCons (gN j) (gsCons (gN k) gsNil))))) w) ε fl := fun S hS => by
  obtain ⟨E, e⟩ := ha S hS
  obtain ⟨E2, e2⟩ := hw (S ++ E ++ [.lst [d1, d2, d3]]) (pre_app (pre_app hS)) _ (List.prefix_refl _)
  refine ⟨E ++ [.lst [d1, d2, d3]] ++ E2, ?_⟩
  have q : litems (S ++ E ++ [O.lst [d1, d2, d3]]) (.ref (S ++ E).length) = some [d1, d2, d3] := by
    unfold litems
    simp only [getLast_app]
  rw [x_Seq, x_Asg, e, x_sE]
  unfold gL
  simp only [q]
  show sN (.ok (.nx (((ε.set i (some d1)).set j (some d2)).set k (some d3))) _) w = _
  rw [x_sN, e2]
  simp
/-- a run's outcome, kept in a variable -/
theorem pLetO {o : Int × Stt} {ε' : D → Env} (ha : ∀ S, B <+: S → ∃ E sp, a ε S = .ok (outD o sp) (S ++ E) ∧ (S ++ E)[sp]? = some (.lst (o.2.spoken.map .int))) (hg : ∀ d S, g d ε S = some (ε' d)) (hw : ∀ (B' : Sto) (sp : Nat), B <+: B' → B'[sp]? = some (.lst (o.2.spoken.map .int)) → PurS B' w (ε' (outD o sp)) fl) : PurS B (sSeq (sAsg a g) w) ε fl := pLetAt fun S hS => by
  obtain ⟨E, sp, e, h⟩ := ha S hS
  exact ⟨E, _, _, e, hg _, hw _ sp (pre_app hS) h⟩
theorem dataVar {o : Int × Stt} {sp i : Nat} (h : ε[i]? = some (some (outD o sp))) (hs : B[sp]? = some (.lst (o.2.spoken.map .int))) : DataE B (dVar i) ε (pyO o.1 o.2.kept o.2.spoken o.2.many) := fun S hS =>
  ⟨[], _, by rw [List.append_nil]; exact x_Var h, fun T hT => frz_out (pre_get (hS.trans (by simpa using hT)) hs)⟩
end
/-! ### run, as the laws call it -/
theorem lvl2 {n : Nat} (h : n ≤ 2) : lvl n ≤ 27 := Nat.le_trans (lvl_mono h) (by decide)
theorem runC {B : Sto} {a b c e : Den} {ε : Env} {rules : List Rule} {d : Deed} {k n q : Nat} {s asked : List Int} (R : RsLaw rules) (ho : okD (szs rules) [] d) (hk : dep d ≤ k) (hk2 : k ≤ 7) (hw : wt (rwt rules) (fun _ => 1) d ≤ 1000) (hs : s.length = 4) (hq : B[q]? = some (.lst (asked.map .int)))
    (ha : PurE B a ε (encRs rules)) (hb : PurE B b ε (enc d)) (hc : PurE B c ε (.tup (s.map .int))) (he : PurE B e ε (.ref q)) (hn : 215 ≤ n) :
    ∀ S, B <+: S → ∃ E sp, dCall 4 (csem n .f_run) (dCons a (dCons b (dCons c (dCons e dNil)))) ε S = .ok (outD (runT rules d s asked) sp) (S ++ E) ∧ (S ++ E)[sp]? = some (.lst ((runT rules d s asked).2.spoken.map .int)) := fun S hS => by
  obtain ⟨n, rfl⟩ : ∃ j, n = j + 3 := ⟨n - 3, by omega⟩
  obtain ⟨E, e1⟩ := pK ha (pK hb (pK hc (pK he pN))) S hS
  have hb2 := lvl2 R.len
  have hmul : k * (lvl rules.length + 2) ≤ 7 * 29 := Nat.mul_le_mul hk2 (by omega)
  obtain ⟨E2, sp, e2, h, _⟩ := run_sem (k := k) R.run ho hk (by omega) hs (n := n) (by omega) (S := S ++ E) (q := q) (pre_get (pre_app hS) hq) (run_wt hw)
  refine ⟨E ++ E2, sp, ?_, by rw [← List.append_assoc]; exact h⟩
  rw [← List.append_assoc]
  exact eCall e1 e2
theorem runD {B : Sto} {a : Den} {ε : Env} {o : Int × Stt} (h : ∀ S, B <+: S → ∃ E sp, a ε S = .ok (outD o sp) (S ++ E) ∧ (S ++ E)[sp]? = some (.lst (o.2.spoken.map .int))) : DataE B a ε (pyO o.1 o.2.kept o.2.spoken o.2.many) := fun S hS => by
  obtain ⟨E, sp, e, hs⟩ := h S hS
  exact ⟨E, _, e, fun T hT => frz_out (pre_get hT hs)⟩
theorem run0 {B : Sto} {a : Den} {ε : Env} {o : Int × Stt} (h : ∀ S, B <+: S → ∃ E sp, a ε S = .ok (outD o sp) (S ++ E) ∧ (S ++ E)[sp]? = some (.lst (o.2.spoken.map .int))) : PurE B (dBin oGet a (dC (.int 0))) ε (.int o.1) := fun S hS => by
  obtain ⟨E, sp, e, hs⟩ := h S hS
  exact ⟨E, eBin e (eZ zC) rfl⟩
/-- (v, store, [], 0) -/
theorem rhsD {B : Sto} {a b : Den} {ε : Env} {v : Int} {s : List Int} (hs : s.length = 4) (ha : PurE B a ε (.int v)) (hb : PurE B b ε (.tup (s.map .int))) : DataE B (dTup (dCons a (dCons b (dCons (dLst dNil) (dCons (dC (.int 0)) dNil))))) ε (pyO v (kept0 s) [] 0) := fun S hS => by
  obtain ⟨E, e1⟩ := ha S hS
  obtain ⟨E2, e2⟩ := hb (S ++ E) (pre_app hS)
  have e3 : dLst dNil ε (S ++ E ++ E2) = .ok (.ref (S ++ E ++ E2).length) (S ++ E ++ E2 ++ [.lst []]) := by simp
  refine ⟨E ++ E2 ++ [.lst []], [.int v, .tup (s.map .int), .ref (S ++ E ++ E2).length, .int 0], ?_, fun T hT => ?_⟩
  · have := eTup (eCons e1 (eCons e2 (eCons e3 (eCons (eZ (zC (d := .int 0))) eNil))))
    rw [this]
    simp
  · have q : T[(S ++ E ++ E2).length]? = some (.lst []) := pre_get hT (by rw [← List.append_assoc, ← List.append_assoc]; exact getLast_app)
    have l : frz (38 + 1) T (.ref (S ++ E ++ E2).length) = some (.list []) := by
      rw [frz_l q]
      rfl
    have t : frz (38 + 1) T (.tup (s.map .int)) = some (.tuple (s.map .int)) := by
      rw [frz_t, frz_ints 37]
      rfl
    have ek : abcd.map (fun x => PyData.int (kept0 s x)) = s.map PyData.int := by
      match s, hs with
      | [i, j, k, l], _ => rfl
    show frz (39 + 1) T _ = _
    unfold pyO
    rw [frz_t, fall_ok (frz_i (n := 38)), fall_ok t, fall_ok l, fall_ok frz_i, fall_nil, ek]
    rfl
end DL

set_option Elab.async false
set_option linter.all false
namespace Lk17
open PySem L2 DL
inductive LF where
  | f_law
/-! law: 0=_law_script 1=_law_rules_here 2=_law_one 3=_law_two 4=_law_three 5=_law_store_here 6=_law_asked_here 7=_law_worths 8=_law_whole 9=_law_mine 10=_law_yours 11=_law_least 12=_law_told 13=_law_any_deed 14=_law_k 15=_law_deed_here 16=_law_worth -/
def b_f_law (c c2 : CF → Fn) (l l2 : LF → Fn) : SDen :=
    (sSeq (sAsg (dCall 2 (c .f__law_rules) (dCons (dVar 0) (dCons (dC (.int 1)) dNil))) (gN 1))
    (sSeq (sAsg (dLc (iRange1 (dC (.int 3))) (gN 14) bYes (dCall 2 (c .f__law_quiet) (dCons (dVar 0) (dCons (dBin oAdd (dC (.int 200)) (dBin oMul (dC (.int 10)) (dVar 14))) dNil))) [14]) (gL 3 (gsCons (gN 2) (gsCons (gN 3) (gsCons (gN 4) gsNil)))))
    (sSeq (sAsg (dCall 2 (c .f__law_store) (dCons (dVar 0) (dCons (dC (.int 70)) dNil))) (gN 5))
    (sSeq (sAsg (dCall 2 (c .f__law_asked) (dCons (dVar 0) (dCons (dC (.int 75)) dNil))) (gN 6))
    (sSeq (sAsg (dLc (iAny (dTup (dCons (dVar 2) (dCons (dVar 3) (dCons (dVar 4) dNil))))) (gN 15) bYes (dBin oGet (dCall 4 (c .f_run) (dCons (dVar 1) (dCons (dVar 15) (dCons (dVar 5) (dCons (dVar 6) dNil))))) (dC (.int 0))) [15]) (gN 7))
    (sSeq (sIf (dTest (dBin oNe (dLc (iAny (dVar 7)) (gN 16) (bNot (dTest (dChain oLe oLe (dC (.int 0)) (dVar 16) (dC (.int 1008))))) (dVar 16) [16]) (dLst dNil))) (sRet (dC (.bl false))) sNil)
    (sSeq (sAsg (dCall 4 (c .f_run) (dCons (dVar 1) (dCons (dTup (dCons (dC (.str "add")) (dCons (dVar 2) (dCons (dTup (dCons (dC (.str "add")) (dCons (dVar 3) (dCons (dVar 4) dNil)))) dNil)))) (dCons (dVar 5) (dCons (dVar 6) dNil))))) (gN 8))
    (sSeq (sIf (dTest (dBin oNe (dVar 8) (dTup (dCons (dBin oMod (dFn fSum (dCons (dVar 7) dNil)) (dC (.int 1009))) (dCons (dVar 5) (dCons (dLst dNil) (dCons (dC (.int 0)) dNil))))))) (sRet (dC (.bl false))) sNil)
    (sSeq (sIf (dTest (dBin oNe (dCall 4 (c .f_run) (dCons (dVar 1) (dCons (dTup (dCons (dC (.str "add")) (dCons (dTup (dCons (dC (.str "add")) (dCons (dVar 4) (dCons (dVar 2) dNil)))) (dCons (dVar 3) dNil)))) (dCons (dVar 5) (dCons (dVar 6) dNil))))) (dVar 8))) (sRet (dC (.bl false))) sNil)
    (sSeq (sIf (dTest (dBin oNe (dCall 4 (c .f_run) (dCons (dVar 1) (dCons (dTup (dCons (dC (.str "add")) (dCons (dVar 2) (dCons (dTup (dCons (dC (.str "number")) (dCons (dC (.int 0)) dNil))) dNil)))) (dCons (dVar 5) (dCons (dVar 6) dNil))))) (dCall 4 (c .f_run) (dCons (dVar 1) (dCons (dVar 2) (dCons (dVar 5) (dCons (dVar 6) dNil))))))) (sRet (dC (.bl false))) sNil)
    (sSeq (sAsg (dBin oGet (dCall 4 (c .f_run) (dCons (dVar 1) (dCons (dTup (dCons (dC (.str "less")) (dCons (dVar 2) (dCons (dVar 3) dNil)))) (dCons (dVar 5) (dCons (dVar 6) dNil))))) (dC (.int 0))) (gN 9))
    (sSeq (sAsg (dBin oGet (dCall 4 (c .f_run) (dCons (dVar 1) (dCons (dTup (dCons (dC (.str "less")) (dCons (dVar 3) (dCons (dVar 2) dNil)))) (dCons (dVar 5) (dCons (dVar 6) dNil))))) (dC (.int 0))) (gN 10))
    (sSeq (sIf (bOr (dTest (dBin oNe (dBin oAdd (dVar 9) (dVar 10)) (dFn fInt (dCons (dBin oNe (dBin oGet (dVar 7) (dC (.int 0))) (dBin oGet (dVar 7) (dC (.int 1)))) dNil)))) (dTest (dBin oNotIn (dVar 9) (dTup (dCons (dC (.int 0)) (dCons (dC (.int 1)) dNil)))))) (sRet (dC (.bl false))) sNil)
    (sSeq (sAsg (dTup (dCons (dC (.str "if")) (dCons (dTup (dCons (dC (.str "less")) (dCons (dVar 2) (dCons (dVar 3) dNil)))) (dCons (dVar 2) (dCons (dVar 3) dNil))))) (gN 11))
    (sSeq (sAsg (dCall 4 (c .f_run) (dCons (dVar 1) (dCons (dVar 11) (dCons (dVar 5) (dCons (dVar 6) dNil))))) (gN 12))
    (sSeq (sIf (dTest (dBin oNe (dVar 12) (dTup (dCons (dFn fMin (dCons (dSl (dVar 7) dNoPart (dPart (dC (.int 2)))) dNil)) (dCons (dVar 5) (dCons (dLst dNil) (dCons (dC (.int 0)) dNil))))))) (sRet (dC (.bl false))) sNil)
    (sSeq (sAsg (dCall 4 (c .f__law_light) (dCons (dVar 0) (dCons (dC (.int 90)) (dCons (dC (.int 2)) (dCons (dVar 1) dNil))))) (gN 13))
    (sRet (dChain oLe oLe (dC (.int 0)) (dBin oGet (dCall 4 (c .f_run) (dCons (dVar 1) (dCons (dVar 13) (dCons (dVar 5) (dCons (dVar 6) dNil))))) (dC (.int 0))) (dC (.int 1008)))))))))))))))))))))
def lbody (c c2 : CF → Fn) (l l2 : LF → Fn) : LF → Fn
  | .f_law => runFn 1 17 (b_f_law c c2 l l2)
def lsem : Nat → LF → Fn
  | 0 => fun _ _ _ => .bad
  | 1 => fun _ _ _ => .bad
  | n + 2 => lbody (csem (n + 1)) (csem n) (lsem (n + 1)) (lsem n)
theorem ls_f_law (n : Nat) : lsem (n + 2) .f_law = runFn 1 17 (b_f_law (csem (n + 1)) (csem n) (lsem (n + 1)) (lsem n)) := rfl
end Lk17

set_option Elab.async false
set_option linter.all false
set_option maxRecDepth 100000
set_option maxHeartbeats 1000000
namespace Lk17
open PySem L2 DL
/-! ### quiet deeds -/
structure Same (a b : Stt) : Prop where
  k : b.kept = a.kept
  m : b.many = a.many
  s : b.spoken = a.spoken
  q : b.asked = a.asked
theorem Same.refl {a : Stt} : Same a a := ⟨rfl, rfl, rfl, rfl⟩
theorem Same.trans {a b c : Stt} (x : Same a b) (y : Same b c) : Same a c := ⟨y.k.trans x.k, y.m.trans x.m, y.s.trans x.s, y.q.trans x.q⟩
def Quiet (d : Deed) (env : Ev) (f : (Str → Int) → Int) : Prop := ∀ rs st, (den rs d env st).1 = f st.kept ∧ Same st (den rs d env st).2
theorem quiet_num (v : Int) (env : Ev) : Quiet (.num v) env fun _ => v := fun rs st => by unfold den; exact ⟨rfl, .refl⟩
theorem quiet_rd {x : Str} {env : Ev} (h : env x = none) : Quiet (.rd x) env fun k => k x := fun rs st => by
  unfold den
  simp only [h]
  exact ⟨rfl, ⟨rfl, rfl, rfl, rfl⟩⟩
theorem quiet_add {a b : Deed} {env : Ev} {f g : (Str → Int) → Int} (ha : Quiet a env f) (hb : Quiet b env g) : Quiet (.two .add a b) env fun k => (f k + g k) % 1009 := fun rs st => by
  have h1 := ha rs st
  have h2 := hb rs (den rs a env st).2
  unfold den
  exact ⟨by rw [h1.1, h2.1, h1.2.k], h1.2.trans h2.2⟩
theorem quiet_less {a b : Deed} {env : Ev} {f g : (Str → Int) → Int} (ha : Quiet a env f) (hb : Quiet b env g) : Quiet (.two .les a b) env fun k => if f k < g k then 1 else 0 := fun rs st => by
  have h1 := ha rs st
  have h2 := hb rs (den rs a env st).2
  unfold den
  exact ⟨by rw [h1.1, h2.1, h1.2.k], h1.2.trans h2.2⟩
theorem quiet_if {a b c : Deed} {env : Ev} {f g h : (Str → Int) → Int} (ha : Quiet a env f) (hb : Quiet b env g) (hc : Quiet c env h) : Quiet (.iff a b c) env fun k => if f k ≠ 0 then g k else h k := fun rs st => by
  have h1 := ha rs st
  have h2 := hb rs (den rs a env st).2
  have h3 := hc rs (den rs a env st).2
  unfold den
  rw [h1.1]
  by_cases q : f st.kept ≠ 0
  · rw [if_pos q]
    exact ⟨by rw [h2.1, h1.2.k]; exact (if_pos q).symm, h1.2.trans h2.2⟩
  · rw [if_neg q]
    exact ⟨by rw [h3.1, h1.2.k]; exact (if_neg q).symm, h1.2.trans h3.2⟩
/-- what _law_quiet makes -/
structure Qd (d : Deed) : Prop where
  ok : ∀ sz, okD sz [] d
  dep : dep d ≤ 3
  wt : ∀ rw, wt rw (fun _ => 1) d ≤ 10
  f : ∃ f, Quiet d env0 f
/-- one of the two small ones -/
structure Bd (d : Deed) : Prop where
  ok : ∀ sz K, okD sz K d
  dep : DL.dep d = 0
  wt : ∀ rw hw, DL.wt rw hw d = 1
  f : ∃ f, ∀ env : Ev, (∀ x ∈ abcd, env x = none) → Quiet d env f
theorem bd_rd {x : Str} (h : x ∈ abcd) : Bd (.rd x) := ⟨fun _ _ => .inr h, rfl, fun _ _ => rfl, ⟨_, fun env he => quiet_rd (he x h)⟩⟩
theorem bd_num {v : Int} (h : 0 ≤ v ∧ v ≤ 1008) : Bd (.num v) := ⟨fun _ _ => h, rfl, fun _ _ => rfl, ⟨_, fun env he => quiet_num v env⟩⟩
theorem env0_abcd : ∀ x ∈ abcd, env0 x = none := fun _ _ => rfl
def ways (one other : Deed) : List Deed := [one, .two .add one other, .own "p" one (.wr "p" (.two .add (.rd "p") other)), .lt "x" one (.two .add (.nam "x") (.nam "x")), .iff one other (.num 4)]
theorem put_abcd {x : Str} {v : EV} (hx : x ∉ abcd) : ∀ y ∈ abcd, putE x v env0 y = none := fun y hy => by
  unfold putE
  rw [if_neg]
  · rfl
  · intro e; exact hx (e ▸ hy)
theorem qd_own {one other : Deed} (h1 : Bd one) (h2 : Bd other) : Qd (.own "p" one (.wr "p" (.two .add (.rd "p") other))) := by
  have kp : kd "p" = 2 := by decide +kernel
  refine ⟨fun sz => ⟨kp, h1.ok _ _, .inl ⟨List.mem_cons_self, kp⟩, .inl ⟨List.mem_cons_self, kp⟩, h2.ok _ _⟩, by simp only [DL.dep, h1.dep, h2.dep]; decide, fun rw => ?_, ?_⟩
  · simp only [DL.wt, h1.wt, h2.wt]
    decide
  · obtain ⟨f, hf0⟩ := h1.f
    obtain ⟨g, hg0⟩ := h2.f
    have hf := hf0 env0 env0_abcd
    have np : ("p" : Str) ∉ abcd := by decide +kernel
    refine ⟨fun k => (f k + g k) % 1009, fun rs st => ?_⟩
    have a1 := hf rs st
    generalize hs1 : den rs one env0 st = r1 at a1
    have hg := hg0 (putE "p" (.cell r1.2.cells.length) env0) (put_abcd np)
    have b1 := hg rs (r1.2.push r1.1)
    generalize hs2 : den rs other (putE "p" (.cell r1.2.cells.length) env0) (r1.2.push r1.1) = r2 at b1
    have pe : putE "p" (.cell r1.2.cells.length) env0 "p" = some (.cell r1.2.cells.length) := if_pos rfl
    have rdp : den rs (.rd "p") (putE "p" (.cell r1.2.cells.length) env0) (r1.2.push r1.1) = (r1.1, r1.2.push r1.1) := by
      unfold den
      simp only [pe]
      simp [Stt.push]
    have ad : den rs (.two .add (.rd "p") other) (putE "p" (.cell r1.2.cells.length) env0) (r1.2.push r1.1) = ((r1.1 + r2.1) % 1009, r2.2) := by
      unfold den
      simp only [rdp, hs2]
    have wr : den rs (.wr "p" (.two .add (.rd "p") other)) (putE "p" (.cell r1.2.cells.length) env0) (r1.2.push r1.1) = ((r1.1 + r2.1) % 1009, r2.2.setC r1.2.cells.length ((r1.1 + r2.1) % 1009)) := by
      rw [den]
      simp only [pe, ad]
    have ow : den rs (.own "p" one (.wr "p" (.two .add (.rd "p") other))) env0 st = ((r1.1 + r2.1) % 1009, r2.2.setC r1.2.cells.length ((r1.1 + r2.1) % 1009)) := by
      rw [den]
      simp only [hs1, wr]
    rw [ow]
    have sm : Same st r2.2 := a1.2.trans (Same.trans (b := r1.2.push r1.1) ⟨rfl, rfl, rfl, rfl⟩ b1.2)
    refine ⟨?_, ⟨sm.k, sm.m, sm.s, sm.q⟩⟩
    show (r1.1 + r2.1) % 1009 = _
    rw [a1.1, b1.1]
    have : (r1.2.push r1.1).kept = st.kept := a1.2.k
    rw [this]
theorem qd_let {one : Deed} (h1 : Bd one) : Qd (.lt "x" one (.two .add (.nam "x") (.nam "x"))) := by
  have kx : kd "x" = 1 := by decide +kernel
  refine ⟨fun sz => ⟨kx, h1.ok _ _, ⟨List.mem_cons_self, kx⟩, ⟨List.mem_cons_self, kx⟩⟩, by simp only [DL.dep, h1.dep]; decide, fun rw => ?_, ?_⟩
  · simp only [DL.wt, h1.wt]
    decide
  · obtain ⟨f, hf0⟩ := h1.f
    have hf := hf0 env0 env0_abcd
    refine ⟨fun k => (f k + f k) % 1009, fun rs st => ?_⟩
    have a1 := hf rs st
    generalize hs1 : den rs one env0 st = r1 at a1
    have pe : putE "x" (.int r1.1) env0 "x" = some (.int r1.1) := if_pos rfl
    have nm : ∀ s, den rs (.nam "x") (putE "x" (.int r1.1) env0) s = (r1.1, s) := fun s => by
      rw [den]
      simp only [pe]
    have ad : den rs (.two .add (.nam "x") (.nam "x")) (putE "x" (.int r1.1) env0) r1.2 = ((r1.1 + r1.1) % 1009, r1.2) := by
      rw [den]
      simp only [nm]
    have e : den rs (.lt "x" one (.two .add (.nam "x") (.nam "x"))) env0 st = ((r1.1 + r1.1) % 1009, r1.2) := by
      rw [den]
      simp only [hs1, ad]
    rw [e]
    exact ⟨by rw [a1.1], a1.2⟩
theorem qd_ways {one other : Deed} (h1 : Bd one) (h2 : Bd other) : ∀ d ∈ ways one other, Qd d := by
  intro d hd
  obtain ⟨f, hf0⟩ := h1.f
  obtain ⟨g, hg0⟩ := h2.f
  have hf := hf0 env0 env0_abcd
  have hg := hg0 env0 env0_abcd
  simp only [ways, List.mem_cons, List.not_mem_nil, or_false] at hd
  rcases hd with rfl | rfl | rfl | rfl | rfl
  · exact ⟨fun sz => h1.ok _ _, by rw [h1.dep]; decide, fun rw => by rw [h1.wt]; decide, ⟨_, hf⟩⟩
  · exact ⟨fun sz => ⟨h1.ok _ _, h2.ok _ _⟩, by simp only [DL.dep, h1.dep, h2.dep]; decide, fun rw => by simp only [DL.wt, h1.wt, h2.wt]; decide, ⟨_, quiet_add hf hg⟩⟩
  · exact qd_own h1 h2
  · exact qd_let h1
  · exact ⟨fun sz => ⟨h1.ok _ _, h2.ok _ _, ⟨by decide, by decide⟩⟩, by simp only [DL.dep, h1.dep, h2.dep]; decide, fun rw => by simp only [DL.wt, h1.wt, h2.wt]; decide, ⟨_, quiet_if hf hg (quiet_num 4 env0)⟩⟩
/-- _law_quiet -/
theorem quiet_sem (n : Nat) (ns : List Int) (t : Int) (ht : 0 ≤ t) (hl : ns.length ≤ 63) : ∃ d, Pur (csem (n + 4) .f__law_quiet [scr ns, .int t]) (enc d) ∧ Qd d := by
  have t1 : 0 ≤ t + 1 := by omega
  have t2 : 0 ≤ t + 2 := by omega
  have t3 : 0 ≤ t + 3 := by omega
  have t4 : 0 ≤ t + 4 := by omega
  obtain ⟨x, hx, px⟩ := drw_pick ns (t + 1) (l := abcd) (by simp [abcd])
  let v := drw ns (t + 2) 1009
  have hv : 0 ≤ v ∧ v ≤ 1008 := ⟨drw_lo _ _ (by decide), by have := drw_hi ns (t + 2) (m := 1009) (by decide); show drw ns (t + 2) 1009 ≤ 1008; omega⟩
  let some2 : List Deed := [.rd x, .num v]
  have bs : ∀ d ∈ some2, Bd d := fun d hd => by
    simp only [some2, List.mem_cons, List.not_mem_nil, or_false] at hd
    rcases hd with rfl | rfl
    · exact bd_rd hx
    · exact bd_num hv
  obtain ⟨one, h1, p1⟩ := drw_pick ns (t + 3) (l := some2) (by simp [some2])
  obtain ⟨other, h2, p2⟩ := drw_pick ns (t + 4) (l := some2) (by simp [some2])
  obtain ⟨d, hd, pd⟩ := drw_pick ns t (l := ways one other) (by simp [ways])
  refine ⟨d, ?_, qd_ways (bs _ h1) (bs _ h2) d hd⟩
  rw [cs_f__law_quiet]
  refine pur_run ?_
  unfold b_f__law_quiet
  refine pLetL (pDispL (pK (pT (pK pC (pK (pO pC (pDrawn hl t1 (by decide) pV (pAdd pV pC) pC) fun S => pick_abcd ns (t + 1) px) pN))) (pK (pT (pK pC (pK (pDrawn hl t2 (by decide) pV (pAdd pV pC) pC) pN))) pN))) (fun _ _ => rfl) fun B1 k1 hB1 hk1 => ?_
  refine pLet (pGetLD pV hk1 (pDrawn hl t3 (by decide) pV (pAdd pV pC) pC) (atI_map (f := enc) p1)) (fun _ => rfl) ?_
  refine pLet (pGetLD pV hk1 (pDrawn hl t4 (by decide) pV (pAdd pV pC) pC) (atI_map (f := enc) p2)) (fun _ => rfl) ?_
  refine pLetL (pDispL (pK pV (pK (pT (pK pC (pK pV (pK pV pN)))) (pK (pT (pK pC (pK pC (pK pV (pK (pT (pK pC (pK pC (pK (pT (pK pC (pK (pT (pK pC (pK pC pN))) (pK pV pN)))) pN)))) pN))))) pN)))) (fun _ _ => rfl) fun B2 k2 hB2 hk2 => ?_
  refine pLetL (pAddL pV hk2 (pDispL (pK (pT (pK pC (pK pC (pK pV (pK (pT (pK pC (pK (pT (pK pC (pK pC pN))) (pK (pT (pK pC (pK pC pN))) pN)))) pN))))) (pK (pT (pK pC (pK pV (pK pV (pK (pT (pK pC (pK pC pN))) pN))))) pN))) (by simp)) (fun _ _ => rfl) fun B3 k3 hB3 hk3 => ?_
  refine pRet (pGetLD pV hk3 (pDrawn hl ht (by decide) pV pV pC) ?_)
  exact atI_map (f := enc) pd
/-- a quiet deed, run -/
theorem runQ {rs : List Rule} {d : Deed} {f : (Str → Int) → Int} (h : Quiet d env0 f) (s A : List Int) : (runT rs d s A).1 = f (kept0 s) ∧ (runT rs d s A).2.kept = kept0 s ∧ (runT rs d s A).2.spoken = [] ∧ (runT rs d s A).2.many = 0 := by
  have := h (rsem rs) (st0 s A)
  exact ⟨this.1, this.2.k, this.2.s, this.2.m⟩
theorem runP {rs : List Rule} {d : Deed} {f : (Str → Int) → Int} (h : Quiet d env0 f) (s A : List Int) : pyO (runT rs d s A).1 (runT rs d s A).2.kept (runT rs d s A).2.spoken (runT rs d s A).2.many = pyO (f (kept0 s)) (kept0 s) [] 0 := by
  obtain ⟨a, b, c, e⟩ := runQ (rs := rs) h s A
  rw [a, b, c, e]
theorem kept0_in {s : List Int} (h : ∀ v ∈ s, In v) (x : Str) : In (kept0 s x) := by
  unfold kept0
  cases q : (abcd.zip s).lookup x with
  | none => exact in0
  | some v =>
    obtain ⟨i, _, b, _⟩ := lk_mem q
    exact h v (List.mem_of_getElem? b)
theorem run_in {rs : List Rule} {d : Deed} {s A : List Int} (R : RsLaw rs) (ho : okD (szs rs) [] d) (hs : ∀ v ∈ s, In v) (hA : ∀ v ∈ A, In v) : In (runT rs d s A).1 :=
  (den_rng (rules_rng rs R.r.ok) d ho ⟨fun x v e => (by cases e), fun x t e => (by cases e)⟩ (st0 s A) ⟨kept0_in hs, hA, by simp [st0]⟩).1
theorem notin01 {S : Sto} {v : Int} (h : v = 0 ∨ v = 1) : oNotIn (.int v) (.tup [.int 0, .int 1]) S = .ok (.bl false) S := by
  rcases h with rfl | rfl <;> rfl
theorem pMin2 {B : Sto} {ε : DL.Env} {k : Nat} {a b c : Int} {x : Den} (hx : PurE B x ε (.ref k)) (hk : B[k]? = some (.lst [.int a, .int b, .int c])) : PurE B (dFn fMin (dCons (dSl x dNoPart (dPart (dC (.int 2)))) dNil)) ε (.int (if a < b then a else b)) := fun S hS => by
  obtain ⟨E, e⟩ := hx S hS
  refine ⟨E ++ [.lst [.int a, .int b]], ?_⟩
  have h1 : dSl x dNoPart (dPart (dC (.int 2))) ε S = .ok (.ref (S ++ E).length) (S ++ E ++ [.lst [.int a, .int b]]) := by
    rw [x_Sl, e, x_bind, x_NoPart, x_bind]
    show (dPart (dC (.int 2)) ε (S ++ E)).bind _ = _
    unfold dPart
    rw [x_C, x_bind, x_bind]
    exact oSl_lo (k := 2) (pre_get (pre_app hS) hk) (by simp) (by simp)
  rw [← List.append_assoc]
  refine eFn (eCons h1 eNil) ?_
  unfold fMin fLst
  have q : litems (S ++ E ++ [O.lst [.int a, .int b]]) (.ref (S ++ E).length) = some [.int a, .int b] := by
    unfold litems
    simp only [getLast_app]
  simp only [q]
  rfl
theorem law_true (ns : List Int) (hl : ns.length ≤ 63) : ∃ S, lsem 231 .f_law [.seq (ns.map D.int)] [] = .ok (.bl true) S := by
  suffices h : Pur (lsem (229 + 2) .f_law [scr ns]) (.bl true) by
    obtain ⟨E, e⟩ := h []
    exact ⟨_, e⟩
  obtain ⟨rs, hrs, R⟩ := rules_sem 220 ns 1 (by decide) hl
  have hq : ∀ k : Nat, ∃ d, Pur (csem 230 .f__law_quiet [scr ns, .int (200 + 10 * (k : Int))]) (enc d) ∧ Qd d := fun k => quiet_sem 226 ns (200 + 10 * (k : Int)) (by omega) hl
  obtain ⟨d0, p0, q0⟩ := hq 0
  obtain ⟨d1, p1, q1⟩ := hq 1
  obtain ⟨d2, p2, q2⟩ := hq 2
  obtain ⟨f0, g0⟩ := q0.f
  obtain ⟨f1, g1⟩ := q1.f
  obtain ⟨f2, g2⟩ := q2.f
  let s : List Int := (List.range 4).map fun (k : Nat) => drw ns (70 + (k : Int)) 6
  let A : List Int := (List.range (drw ns 75 4).toNat).map fun (k : Nat) => drw ns (75 + 1 + (k : Int)) 9
  have hs4 : s.length = 4 := by simp [s]
  have hsI : ∀ v ∈ s, In v := fun v hv => by
    obtain ⟨k, _, rfl⟩ := List.mem_map.mp hv
    exact ⟨drw_lo _ _ (by decide), by have := drw_hi ns (70 + (k : Int)) (m := 6) (by decide); omega⟩
  have hAI : ∀ v ∈ A, In v := fun v hv => by
    obtain ⟨k, _, rfl⟩ := List.mem_map.mp hv
    exact ⟨drw_lo _ _ (by decide), by have := drw_hi ns (75 + 1 + (k : Int)) (m := 9) (by decide); omega⟩
  let k0 := kept0 s
  let w0 := (runT rs d0 s A).1
  let w1 := (runT rs d1 s A).1
  let w2 := (runT rs d2 s A).1
  have e0 : w0 = f0 k0 := (runQ g0 s A).1
  have e1 : w1 = f1 k0 := (runQ g1 s A).1
  have e2 : w2 = f2 k0 := (runQ g2 s A).1
  have i0 : In w0 := run_in R (q0.ok _) hsI hAI
  have i1 : In w1 := run_in R (q1.ok _) hsI hAI
  have i2 : In w2 := run_in R (q2.ok _) hsI hAI
  rw [ls_f_law]
  refine pur_run ?_
  unfold b_f_law
  refine pLet (pCall (pK pV (pK pC pN)) hrs) (fun _ => rfl) ?_
  refine pUnpack (d1 := enc d0) (d2 := enc d1) (d3 := enc d2) (pLc3 [enc d0, enc d1, enc d2] (piRange (m := 3) (by decide) pC) rfl (fun i x o h1 h2 => ?_) (by decide)) fun B1 hB1 => ?_
  · refine ⟨_, fun S => rfl, ?_⟩
    rw [nums_get] at h1
    match i, h1, h2 with
    | 0, h1, h2 => cases h1; cases h2; exact pCall (pK pV (pK (pAdd pC (pMulL pC pV)) pN)) p0
    | 1, h1, h2 => cases h1; cases h2; exact pCall (pK pV (pK (pAdd pC (pMulL pC pV)) pN)) p1
    | 2, h1, h2 => cases h1; cases h2; exact pCall (pK pV (pK (pAdd pC (pMulL pC pV)) pN)) p2
    | i + 3, h1, h2 => rw [if_neg (by omega)] at h1; cases h1
  refine pLet (d := .tup (s.map .int)) (pCall (pK pV (pK pC pN)) (by
    have := store_sem 226 ns 70 (by decide) hl
    simpa [s, Function.comp_def] using this)) (fun _ => rfl) ?_
  refine pLetL (ds := A.map .int) (fun S hS => ?_) (fun _ _ => rfl) fun B2 q hB2 hk2 => ?_
  · obtain ⟨E, e⟩ := asked_sem 226 ns 75 (by decide) hl S
    refine ⟨E, eCall (eCons (eZ zV) (eCons (eZ zC) eNil)) ?_⟩
    rw [e]
    simp [A, Function.comp_def]
  -- runs at a base store that has what is asked at q
  have RC : ∀ {B : Sto} {ε : DL.Env} {b : Den} {d : Deed}, B[q]? = some (.lst (A.map .int)) → PurE B b ε (enc d) → ε[1]? = some (some (encRs rs)) → ε[5]? = some (some (.tup (s.map .int))) → ε[6]? = some (some (.ref q)) → okD (szs rs) [] d → dep d ≤ 7 → wt (rwt rs) (fun _ => 1) d ≤ 1000 →
      ∀ S, B <+: S → ∃ E sp, dCall 4 (csem 230 .f_run) (dCons (dVar 1) (dCons b (dCons (dVar 5) (dCons (dVar 6) dNil)))) ε S = .ok (outD (runT rs d s A) sp) (S ++ E) ∧ (S ++ E)[sp]? = some (.lst ((runT rs d s A).2.spoken.map .int)) :=
    fun {B ε b d} hq hb h1 h5 h6 ho hd hw => runC (k := 7) R ho hd (by decide) hw hs4 hq (pV h1) hb (pV h5) (pV h6) (by decide)
  have dp0 := q0.dep
  have dp1 := q1.dep
  have dp2 := q2.dep
  have wt0 := q0.wt (rwt rs)
  have wt1 := q1.wt (rwt rs)
  have wt2 := q2.wt (rwt rs)
  have RC0 : ∀ {B : Sto} {ε : DL.Env} {b : Den}, B[q]? = some (.lst (A.map .int)) → PurE B b ε (enc d0) → ε[1]? = some (some (encRs rs)) → ε[5]? = some (some (.tup (s.map .int))) → ε[6]? = some (some (.ref q)) → PurE B (dBin oGet (dCall 4 (csem 230 .f_run) (dCons (dVar 1) (dCons b (dCons (dVar 5) (dCons (dVar 6) dNil))))) (dC (.int 0))) ε (.int w0) := fun a b c d e => run0 (RC a b c d e (q0.ok _) (by omega) (by omega))
  have RC1 : ∀ {B : Sto} {ε : DL.Env} {b : Den}, B[q]? = some (.lst (A.map .int)) → PurE B b ε (enc d1) → ε[1]? = some (some (encRs rs)) → ε[5]? = some (some (.tup (s.map .int))) → ε[6]? = some (some (.ref q)) → PurE B (dBin oGet (dCall 4 (csem 230 .f_run) (dCons (dVar 1) (dCons b (dCons (dVar 5) (dCons (dVar 6) dNil))))) (dC (.int 0))) ε (.int w1) := fun a b c d e => run0 (RC a b c d e (q1.ok _) (by omega) (by omega))
  have RC2 : ∀ {B : Sto} {ε : DL.Env} {b : Den}, B[q]? = some (.lst (A.map .int)) → PurE B b ε (enc d2) → ε[1]? = some (some (encRs rs)) → ε[5]? = some (some (.tup (s.map .int))) → ε[6]? = some (some (.ref q)) → PurE B (dBin oGet (dCall 4 (csem 230 .f_run) (dCons (dVar 1) (dCons b (dCons (dVar 5) (dCons (dVar 6) dNil))))) (dC (.int 0))) ε (.int w2) := fun a b c d e => run0 (RC a b c d e (q2.ok _) (by omega) (by omega))
  refine pLetL (pLc3 (xs := [enc d0, enc d1, enc d2]) [.int w0, .int w1, .int w2] (piTup (pT (pK pV (pK pV (pK pV pN))))) rfl (fun i x o h1 h2 => ?_) (by simp)) (fun _ _ => rfl) fun B3 kw hB3 hkw => ?_
  · refine ⟨_, fun S => rfl, ?_⟩
    match i, h1, h2 with
    | 0, h1, h2 => cases h1; cases h2; exact RC0 hk2 pV rfl rfl rfl
    | 1, h1, h2 => cases h1; cases h2; exact RC1 hk2 pV rfl rfl rfl
    | 2, h1, h2 => cases h1; cases h2; exact RC2 hk2 pV rfl rfl rfl
    | i + 3, h1, h2 => simp at h1
  have hq3 := pre_get hB3 hk2
  -- all from 0 to 1008
  refine pSkip (pB (pNeNil ?_)) ?_
  · refine pLc2 (xs := [.int w0, .int w1, .int w2]) [none, none, none] (piRef pV hkw) rfl (fun i x o h1 h2 => ?_) (by simp)
    refine ⟨_, fun S => rfl, ?_⟩
    have bad : ∀ {v : Int} {ε : DL.Env}, In v → ε[16]? = some (some (.int v)) → PurB B3 (bNot (dTest (dChain oLe oLe (dC (.int 0)) (dVar 16) (dC (.int 1008))))) ε false := fun {v ε} hv h => by
      have := pNot (pB (pChain (B := B3) (ε := ε) (pC (d := .int 0)) (pV h) (pC (d := .int 1008))))
      rw [decide_eq_true hv.1, decide_eq_true hv.2] at this
      exact this
    match i, h1, h2 with
    | 0, h1, h2 => cases h1; cases h2; exact ⟨bad i0 rfl, fun v e => by cases e⟩
    | 1, h1, h2 => cases h1; cases h2; exact ⟨bad i1 rfl, fun v e => by cases e⟩
    | 2, h1, h2 => cases h1; cases h2; exact ⟨bad i2 rfl, fun v e => by cases e⟩
    | i + 3, h1, h2 => simp at h1
  -- the sum of all
  have gw := quiet_add g0 (quiet_add g1 g2)
  refine pLetO (RC (d := .two .add d0 (.two .add d1 d2)) hq3 (pT (pK pC (pK pV (pK (pT (pK pC (pK pV (pK pV pN)))) pN)))) rfl rfl rfl ⟨q0.ok _, q1.ok _, q2.ok _⟩ (by simp only [DL.dep]; omega) (by simp [DL.wt]; omega)) (fun _ _ => rfl) fun B4 sp hB4 hsp => ?_
  have hq4 := pre_get hB4 hq3
  have hkw4 := pre_get hB4 hkw
  have dw := dataVar (B := B4) (ε := [some (scr ns), some (encRs rs), some (enc d0), some (enc d1), some (enc d2), some (.tup (s.map .int)), some (.ref q), some (.ref kw), some (outD (runT rs (.two .add d0 (.two .add d1 d2)) s A) sp), none, none, none, none, none, none, none, none]) (i := 8) rfl hsp
  rw [runP gw s A] at dw
  refine pSkip (pB (pNeD dw ?_ (lay_out _ _ _ _))) ?_
  · have := rhsD (B := B4) (ε := [some (scr ns), some (encRs rs), some (enc d0), some (enc d1), some (enc d2), some (.tup (s.map .int)), some (.ref q), some (.ref kw), some (outD (runT rs (.two .add d0 (.two .add d1 d2)) s A) sp), none, none, none, none, none, none, none, none]) (a := dBin oMod (dFn fSum (dCons (dVar 7) dNil)) (dC (.int 1009))) (b := dVar 5) hs4 (pO (x := .int ([w0, w1, w2].sum % 1009)) (pSumR (ns := [w0, w1, w2]) pV hkw4) pC fun S => by rw [x_modI, if_pos (by decide)]) pV
    have e : [w0, w1, w2].sum % 1009 = (f0 k0 + (f1 k0 + f2 k0) % 1009) % 1009 := by
      rw [e0, e1, e2]
      simp only [List.sum_cons, List.sum_nil]
      omega
    rw [e] at this
    exact this
  have gv := quiet_add (quiet_add g2 g0) g1
  refine pSkip (pB (pNeD (p := pyO ((f0 k0 + (f1 k0 + f2 k0) % 1009) % 1009) k0 [] 0) ?_ dw (lay_out _ _ _ _))) ?_
  · have := runD (RC (B := B4) (ε := [some (scr ns), some (encRs rs), some (enc d0), some (enc d1), some (enc d2), some (.tup (s.map .int)), some (.ref q), some (.ref kw), some (outD (runT rs (.two .add d0 (.two .add d1 d2)) s A) sp), none, none, none, none, none, none, none, none]) (b := dTup (dCons (dC (.str "add")) (dCons (dTup (dCons (dC (.str "add")) (dCons (dVar 4) (dCons (dVar 2) dNil)))) (dCons (dVar 3) dNil)))) (d := .two .add (.two .add d2 d0) d1) hq4 (pT (pK pC (pK (pT (pK pC (pK pV (pK pV pN)))) (pK pV pN)))) rfl rfl rfl ⟨⟨q2.ok _, q0.ok _⟩, q1.ok _⟩ (by simp only [DL.dep]; omega) (by simp [DL.wt]; omega))
    rw [runP gv s A] at this
    have e : ((f2 k0 + f0 k0) % 1009 + f1 k0) % 1009 = (f0 k0 + (f1 k0 + f2 k0) % 1009) % 1009 := by omega
    rw [show ((f2 (kept0 s) + f0 (kept0 s)) % 1009 + f1 (kept0 s)) % 1009 = (f0 k0 + (f1 k0 + f2 k0) % 1009) % 1009 from e] at this
    exact this
  have gn := quiet_add g0 (quiet_num 0 env0)
  refine pSkip (pB (pNeD (p := pyO (f0 k0) k0 [] 0) ?_ ?_ (lay_out _ _ _ _))) ?_
  · have := runD (RC (B := B4) (ε := [some (scr ns), some (encRs rs), some (enc d0), some (enc d1), some (enc d2), some (.tup (s.map .int)), some (.ref q), some (.ref kw), some (outD (runT rs (.two .add d0 (.two .add d1 d2)) s A) sp), none, none, none, none, none, none, none, none]) (b := dTup (dCons (dC (.str "add")) (dCons (dVar 2) (dCons (dTup (dCons (dC (.str "number")) (dCons (dC (.int 0)) dNil))) dNil)))) (d := .two .add d0 (.num 0)) hq4 (pT (pK pC (pK pV (pK (pT (pK pC (pK pC pN))) pN)))) rfl rfl rfl ⟨q0.ok _, ⟨by decide, by decide⟩⟩ (by simp only [DL.dep]; omega) (by simp [DL.wt]; omega))
    rw [runP gn s A] at this
    have e : (f0 (kept0 s) + 0) % 1009 = f0 k0 := by
      have h := i0
      rw [e0] at h
      obtain ⟨ha, hb⟩ := h
      show (f0 k0 + 0) % 1009 = f0 k0
      omega
    rw [e] at this
    exact this
  · have := runD (RC (B := B4) (ε := [some (scr ns), some (encRs rs), some (enc d0), some (enc d1), some (enc d2), some (.tup (s.map .int)), some (.ref q), some (.ref kw), some (outD (runT rs (.two .add d0 (.two .add d1 d2)) s A) sp), none, none, none, none, none, none, none, none]) (b := dVar 2) (d := d0) hq4 pV rfl rfl rfl (q0.ok _) (by omega) (by omega))
    rw [runP g0 s A] at this
    exact this
  -- one is less
  have gl := quiet_less g0 g1
  have gr := quiet_less g1 g0
  refine pLet (run0 (RC (d := .two .les d0 d1) hq4 (pT (pK pC (pK pV (pK pV pN)))) rfl rfl rfl ⟨q0.ok _, q1.ok _⟩ (by simp only [DL.dep]; omega) (by simp [DL.wt]; omega))) (fun _ => rfl) ?_
  refine pLet (run0 (RC (d := .two .les d1 d0) hq4 (pT (pK pC (pK pV (pK pV pN)))) rfl rfl rfl ⟨q1.ok _, q0.ok _⟩ (by simp only [DL.dep]; omega) (by simp [DL.wt]; omega))) (fun _ => rfl) ?_
  rw [(runQ (rs := rs) gl s A).1, (runQ (rs := rs) gr s A).1]
  refine pSkip (pOrB (t := false) (t' := false) (pB (pO (pAdd pV pV) (pF (x := .int (if w0 ≠ w1 then 1 else 0)) (pK (pO (x := .bl (!decide (w0 = w1))) (pGetL (i := 0) pV hkw4 rfl) (pGetL (i := 0) pV hkw4 rfl) fun S => rfl) pN) fun S => ?_) fun S => ?_)) (fun _ => pB (pO pV (pT (pK pC (pK pC pN))) fun S => notin01 ?_)) rfl) ?_
  · unfold fInt
    by_cases h : w0 = w1 <;> simp [h]
  · rw [x_neI]
    have : ((if f0 (kept0 s) < f1 (kept0 s) then (1 : Int) else 0) + (if f1 (kept0 s) < f0 (kept0 s) then 1 else 0)) = if w0 ≠ w1 then 1 else 0 := by
      rw [e0, e1]
      show ((if f0 k0 < f1 k0 then (1 : Int) else 0) + (if f1 k0 < f0 k0 then 1 else 0)) = _
      split <;> split <;> split <;> omega
    rw [this]
    simp
  · by_cases h : f0 (kept0 s) < f1 (kept0 s) <;> simp [h]
  -- the lesser of two
  have gi := quiet_if gl g0 g1
  refine pLet (d := enc (.iff (.two .les d0 d1) d0 d1)) (pT (pK pC (pK (pT (pK pC (pK pV (pK pV pN)))) (pK pV (pK pV pN))))) (fun _ => rfl) ?_
  refine pLetO (RC (d := .iff (.two .les d0 d1) d0 d1) hq4 pV rfl rfl rfl ⟨⟨q0.ok _, q1.ok _⟩, q0.ok _, q1.ok _⟩ (by simp only [DL.dep]; omega) (by simp [DL.wt]; omega)) (fun _ _ => rfl) fun B5 sp5 hB5 hsp5 => ?_
  have hq5 := pre_get hB5 hq4
  have hkw5 := pre_get hB5 hkw4
  refine pSkip (pB (pNeD (p := pyO (if w0 < w1 then w0 else w1) k0 [] 0) ?_ (rhsD hs4 (pMin2 pV hkw5) pV) (lay_out _ _ _ _))) ?_
  · have := dataVar (B := B5) (i := 12) (ε := (List.set [some (scr ns), some (encRs rs), some (enc d0), some (enc d1), some (enc d2), some (.tup (s.map .int)), some (.ref q), some (.ref kw), some (outD (runT rs (.two .add d0 (.two .add d1 d2)) s A) sp), some (.int (if f0 (kept0 s) < f1 (kept0 s) then 1 else 0)), some (.int (if f1 (kept0 s) < f0 (kept0 s) then 1 else 0)), some (enc (.iff (.two .les d0 d1) d0 d1)), none, none, none, none, none] 12 (some (outD (runT rs (.iff (.two .les d0 d1) d0 d1) s A) sp5)))) rfl hsp5
    rw [runP gi s A] at this
    have e : (if (if f0 (kept0 s) < f1 (kept0 s) then (1 : Int) else 0) ≠ 0 then f0 (kept0 s) else f1 (kept0 s)) = if w0 < w1 then w0 else w1 := by
      rw [e0, e1]
      show (if (if f0 k0 < f1 k0 then (1 : Int) else 0) ≠ 0 then f0 k0 else f1 k0) = _
      by_cases h : f0 k0 < f1 k0 <;> simp [h]
    rw [e] at this
    exact this
  -- any deed
  obtain ⟨dl, pl, ol, dpl, wl⟩ := light_sem ns hl R 2 230 (by decide) (by decide) 90 (by decide)
  refine pLet (pCall (pK pV (pK pC (pK pC (pK pV pN)))) pl) (fun _ => rfl) ?_
  have il : In (runT rs dl s A).1 := run_in R ol hsI hAI
  have et : (D.bl true) = D.bl (decide (0 ≤ (runT rs dl s A).1) && decide ((runT rs dl s A).1 ≤ 1008)) := by
    rw [decide_eq_true il.1, decide_eq_true il.2]
    rfl
  rw [et]
  exact pRet (pChain pC (run0 (RC (d := dl) hq5 pV rfl rfl rfl ol (by omega) (by omega))) pC)
end Lk17

set_option Elab.async false
set_option linter.all false
set_option maxRecDepth 100000
set_option maxHeartbeats 0
namespace Lk17
open PySem L2 DL
def top (i : Nat) : Stmt := PySem.Challenge.pw_shelfwork_k17_whole_reckoning.main.body.getD i (.Pass ⟨0, 0, 0, 0⟩)
inductive Fid where
  | m_Run_init
  | m_Run_touch
  | m_Run_worth
  | m_Run_at_shelf
  | m_Run_with_names
  | m_Run_put_together
  | m_World_init
  | m_World_touched
  | m_World_shelves
  | f_finished
  | f_run
  | f__law_cell
  | f__law_drawn
  | f__law_leaf
  | f__law_deed
  | f__law_call
  | f__law_rules
  | f__law_store
  | f__law_asked
  | f__law_quiet
  | f__law_weight
  | f__law_light
  | f_law
def np : Fid → Nat
  | .m_Run_init => 4
  | .m_Run_touch => 2
  | .m_Run_worth => 3
  | .m_Run_at_shelf => 3
  | .m_Run_with_names => 3
  | .m_Run_put_together => 3
  | .m_World_init => 3
  | .m_World_touched => 2
  | .m_World_shelves => 1
  | .f_finished => 3
  | .f_run => 4
  | .f__law_cell => 2
  | .f__law_drawn => 3
  | .f__law_leaf => 3
  | .f__law_deed => 5
  | .f__law_call => 5
  | .f__law_rules => 2
  | .f__law_store => 2
  | .f__law_asked => 2
  | .f__law_quiet => 2
  | .f__law_weight => 3
  | .f__law_light => 4
  | .f_law => 1
def sem (n : Nat) : Fid → Fn
  | .m_Run_init => csem n .m_Run_init
  | .m_Run_touch => csem n .m_Run_touch
  | .m_Run_worth => csem n .m_Run_worth
  | .m_Run_at_shelf => csem n .m_Run_at_shelf
  | .m_Run_with_names => csem n .m_Run_with_names
  | .m_Run_put_together => csem n .m_Run_put_together
  | .m_World_init => csem n .m_World_init
  | .m_World_touched => csem n .m_World_touched
  | .m_World_shelves => csem n .m_World_shelves
  | .f_finished => csem n .f_finished
  | .f_run => csem n .f_run
  | .f__law_cell => csem n .f__law_cell
  | .f__law_drawn => csem n .f__law_drawn
  | .f__law_leaf => csem n .f__law_leaf
  | .f__law_deed => csem n .f__law_deed
  | .f__law_call => csem n .f__law_call
  | .f__law_rules => csem n .f__law_rules
  | .f__law_store => csem n .f__law_store
  | .f__law_asked => csem n .f__law_asked
  | .f__law_quiet => csem n .f__law_quiet
  | .f__law_weight => csem n .f__law_weight
  | .f__law_light => csem n .f__law_light
  | .f_law => lsem n .f_law
inductive Cid where
  | Run
  | World
inductive Eid where
  | Pause
abbrev stm : Fid → Stmt
  | .m_Run_init => inClass (top 5) 0
  | .m_Run_touch => inClass (top 5) 1
  | .m_Run_worth => inClass (top 5) 2
  | .m_Run_at_shelf => inClass (top 5) 3
  | .m_Run_with_names => inClass (top 5) 4
  | .m_Run_put_together => inClass (top 5) 5
  | .m_World_init => inClass (top 6) 0
  | .m_World_touched => inClass (top 6) 1
  | .m_World_shelves => inClass (top 6) 2
  | .f_finished => top 7
  | .f_run => top 8
  | .f__law_cell => top 10
  | .f__law_drawn => top 11
  | .f__law_leaf => top 12
  | .f__law_deed => top 13
  | .f__law_call => top 14
  | .f__law_rules => top 15
  | .f__law_store => top 16
  | .f__law_asked => top 17
  | .f__law_quiet => top 18
  | .f__law_weight => top 19
  | .f__law_light => top 20
  | .f_law => top 21
abbrev nam : Fid → Str
  | .m_Run_init => "__init__"
  | .m_Run_touch => "touch"
  | .m_Run_worth => "worth"
  | .m_Run_at_shelf => "at_shelf"
  | .m_Run_with_names => "with_names"
  | .m_Run_put_together => "put_together"
  | .m_World_init => "__init__"
  | .m_World_touched => "touched"
  | .m_World_shelves => "shelves"
  | .f_finished => "finished"
  | .f_run => "run"
  | .f__law_cell => "_law_cell"
  | .f__law_drawn => "_law_drawn"
  | .f__law_leaf => "_law_leaf"
  | .f__law_deed => "_law_deed"
  | .f__law_call => "_law_call"
  | .f__law_rules => "_law_rules"
  | .f__law_store => "_law_store"
  | .f__law_asked => "_law_asked"
  | .f__law_quiet => "_law_quiet"
  | .f__law_weight => "_law_weight"
  | .f__law_light => "_law_light"
  | .f_law => "law"
abbrev qua : Fid → Str
  | .m_Run_init => "Run.__init__"
  | .m_Run_touch => "Run.touch"
  | .m_Run_worth => "Run.worth"
  | .m_Run_at_shelf => "Run.at_shelf"
  | .m_Run_with_names => "Run.with_names"
  | .m_Run_put_together => "Run.put_together"
  | .m_World_init => "World.__init__"
  | .m_World_touched => "World.touched"
  | .m_World_shelves => "World.shelves"
  | .f_finished => "finished"
  | .f_run => "run"
  | .f__law_cell => "_law_cell"
  | .f__law_drawn => "_law_drawn"
  | .f__law_leaf => "_law_leaf"
  | .f__law_deed => "_law_deed"
  | .f__law_call => "_law_call"
  | .f__law_rules => "_law_rules"
  | .f__law_store => "_law_store"
  | .f__law_asked => "_law_asked"
  | .f__law_quiet => "_law_quiet"
  | .f__law_weight => "_law_weight"
  | .f__law_light => "_law_light"
  | .f_law => "law"
abbrev pas : Fid → List Str
  | .m_Run_init => ["self", "rules", "answers", "world"]
  | .m_Run_touch => ["self", "mark"]
  | .m_Run_worth => ["self", "deed", "known"]
  | .m_Run_at_shelf => ["self", "deed", "known"]
  | .m_Run_with_names => ["self", "deed", "known"]
  | .m_Run_put_together => ["self", "deed", "known"]
  | .m_World_init => ["self", "store", "asked"]
  | .m_World_touched => ["self", "mark"]
  | .m_World_shelves => ["self"]
  | .f_finished => ["rules", "deed", "world"]
  | .f_run => ["rules", "deed", "store", "asked"]
  | .f__law_cell => ["_law_script", "_law_k"]
  | .f__law_drawn => ["_law_script", "_law_k", "_law_many"]
  | .f__law_leaf => ["_law_script", "_law_at", "_law_known"]
  | .f__law_deed => ["_law_script", "_law_at", "_law_deep", "_law_known", "_law_rules_here"]
  | .f__law_call => ["_law_script", "_law_at", "_law_deep", "_law_known", "_law_rules_here"]
  | .f__law_rules => ["_law_script", "_law_at"]
  | .f__law_store => ["_law_script", "_law_at"]
  | .f__law_asked => ["_law_script", "_law_at"]
  | .f__law_quiet => ["_law_script", "_law_at"]
  | .f__law_weight => ["_law_rules_here", "_law_deed_here", "_law_handed"]
  | .f__law_light => ["_law_script", "_law_at", "_law_deep", "_law_rules_here"]
  | .f_law => ["_law_script"]
def cAl (ca : Cid → Addr) : List (Str × Addr) := [("Run", ca .Run), ("World", ca .World)]
def cA (ca : Cid → Addr) (c : Str) : Option Addr := (cAl ca).lookup c
def xA (ea : Eid → Addr) (c : Str) : Option Addr := ([("Pause", ea .Pause)] : List (Str × Addr)).lookup c
theorem xA_Pause (ea : Eid → Addr) : xA ea "Pause" = some (ea .Pause) := by rfl
theorem cA_Run (ca : Cid → Addr) : cA ca "Run" = some (ca .Run) := by rfl
theorem cA_World (ca : Cid → Addr) : cA ca "World" = some (ca .World) := by rfl
theorem lk_mem {α : Type} [BEq α] {β : Type} {x : α} {y : β} : ∀ {l : List (α × β)}, l.lookup x = some y → ∃ z, (z, y) ∈ l
  | [], h => by cases h
  | (a, b) :: r, h => by
    unfold List.lookup at h
    split at h
    · cases h
      exact ⟨a, List.mem_cons_self⟩
    · obtain ⟨z, hz⟩ := lk_mem h
      exact ⟨z, List.mem_cons_of_mem _ hz⟩
theorem cA_ca {ca : Cid → Addr} : ∀ c C, cA ca c = some C → ∃ i, C = ca i := fun c C e => by
  obtain ⟨z, hz⟩ := lk_mem (show (cAl ca).lookup c = some C from e)
  unfold cAl at hz
  simp only [List.mem_cons, Prod.mk.injEq, List.not_mem_nil, or_false] at hz
  rcases hz with ⟨_, h⟩ | ⟨_, h⟩
  · exact ⟨.Run, h⟩
  · exact ⟨.World, h⟩
structure Tx (K : PySem.W.Frag) (mg : Str → Option Value) (fa : Fid → Addr) (fdt : Fid → FuncData) (ca : Cid → Addr) (ea : Eid → Addr) : Prop where
  fn : ∀ i, Fun K (nam i) (qua i) (stm i) (fa i) (fdt i)
  bd : ∀ i, Binds K (fdt i) (pas i) []
  cl : ∀ i, Cls K (ca i)
  xc : ∀ i, ExcC K (ea i)
  mg_Pause : mg "Pause" = some (.ref (ea .Pause))
  me_m_Run_touch : Meth K (ca .Run) "touch" (fa .m_Run_touch)
  me_m_Run_worth : Meth K (ca .Run) "worth" (fa .m_Run_worth)
  me_m_Run_at_shelf : Meth K (ca .Run) "at_shelf" (fa .m_Run_at_shelf)
  me_m_Run_with_names : Meth K (ca .Run) "with_names" (fa .m_Run_with_names)
  me_m_Run_put_together : Meth K (ca .Run) "put_together" (fa .m_Run_put_together)
  me_m_World_touched : Meth K (ca .World) "touched" (fa .m_World_touched)
  me_m_World_shelves : Meth K (ca .World) "shelves" (fa .m_World_shelves)
  mg_f_finished : mg "finished" = some (.ref (fa .f_finished))
  kp_f_finished : PySem.W.keepIn K (.ref (fa .f_finished)) = true
  mg_f_run : mg "run" = some (.ref (fa .f_run))
  kp_f_run : PySem.W.keepIn K (.ref (fa .f_run)) = true
  mg_f__law_cell : mg "_law_cell" = some (.ref (fa .f__law_cell))
  kp_f__law_cell : PySem.W.keepIn K (.ref (fa .f__law_cell)) = true
  mg_f__law_drawn : mg "_law_drawn" = some (.ref (fa .f__law_drawn))
  kp_f__law_drawn : PySem.W.keepIn K (.ref (fa .f__law_drawn)) = true
  mg_f__law_leaf : mg "_law_leaf" = some (.ref (fa .f__law_leaf))
  kp_f__law_leaf : PySem.W.keepIn K (.ref (fa .f__law_leaf)) = true
  mg_f__law_deed : mg "_law_deed" = some (.ref (fa .f__law_deed))
  kp_f__law_deed : PySem.W.keepIn K (.ref (fa .f__law_deed)) = true
  mg_f__law_call : mg "_law_call" = some (.ref (fa .f__law_call))
  kp_f__law_call : PySem.W.keepIn K (.ref (fa .f__law_call)) = true
  mg_f__law_rules : mg "_law_rules" = some (.ref (fa .f__law_rules))
  kp_f__law_rules : PySem.W.keepIn K (.ref (fa .f__law_rules)) = true
  mg_f__law_store : mg "_law_store" = some (.ref (fa .f__law_store))
  kp_f__law_store : PySem.W.keepIn K (.ref (fa .f__law_store)) = true
  mg_f__law_asked : mg "_law_asked" = some (.ref (fa .f__law_asked))
  kp_f__law_asked : PySem.W.keepIn K (.ref (fa .f__law_asked)) = true
  mg_f__law_quiet : mg "_law_quiet" = some (.ref (fa .f__law_quiet))
  kp_f__law_quiet : PySem.W.keepIn K (.ref (fa .f__law_quiet)) = true
  mg_f__law_weight : mg "_law_weight" = some (.ref (fa .f__law_weight))
  kp_f__law_weight : PySem.W.keepIn K (.ref (fa .f__law_weight)) = true
  mg_f__law_light : mg "_law_light" = some (.ref (fa .f__law_light))
  kp_f__law_light : PySem.W.keepIn K (.ref (fa .f__law_light)) = true
  mg_f_law : mg "law" = some (.ref (fa .f_law))
  kp_f_law : PySem.W.keepIn K (.ref (fa .f_law)) = true
  mg_Run : mg "Run" = some (.ref (ca .Run))
  mk_Run : Mk K (ca .Run) (fa .m_Run_init)
  mg_World : mg "World" = some (.ref (ca .World))
  mk_World : Mk K (ca .World) (fa .m_World_init)
  na_rules : ∀ i, NoAttr K (ca i) "rules"
  na_world : ∀ i, NoAttr K (ca i) "world"
  na_answers : ∀ i, NoAttr K (ca i) "answers"
  na_place : ∀ i, NoAttr K (ca i) "place"
  na_wanted : ∀ i, NoAttr K (ca i) "wanted"
  na_cells : ∀ i, NoAttr K (ca i) "cells"
  na_kept : ∀ i, NoAttr K (ca i) "kept"
  na_asked : ∀ i, NoAttr K (ca i) "asked"
  na_many : ∀ i, NoAttr K (ca i) "many"
  na_spoken : ∀ i, NoAttr K (ca i) "spoken"
  na_marks : ∀ i, NoAttr K (ca i) "marks"
  z_dict : mg "dict" = none
  z_int : mg "int" = none
  z_isinstance : mg "isinstance" = none
  z_len : mg "len" = none
  z_min : mg "min" = none
  z_range : mg "range" = none
  z_str : mg "str" = none
  z_sum : mg "sum" = none
  z_tuple : mg "tuple" = none
  z_zip : mg "zip" = none
  g_MOST_TURNS : ∃ t, mg "MOST_TURNS" = some (.int 4 t)
  g_SHELVES : ∃ t, mg "SHELVES" = some (.str "abcd" t)
  g_SIZE : ∃ t, mg "SIZE" = some (.int 1009 t)
section
variable {P : Program} {w : World} {K : PySem.W.Frag} {mg : Str → Option Value} {base : Heap} {fa : Fid → Addr} {fdt : Fid → FuncData} {ca : Cid → Addr} {ea : Eid → Addr}
theorem Tx.fld_rules {X : Cx} (T : Tx X.K mg fa fdt ca ea) : FldOk X ⟨cA ca, xA ea⟩ "rules" := fun c C e => by
  obtain ⟨i, rfl⟩ := cA_ca c C e
  exact ⟨T.cl i, T.na_rules i⟩
theorem Tx.fld_world {X : Cx} (T : Tx X.K mg fa fdt ca ea) : FldOk X ⟨cA ca, xA ea⟩ "world" := fun c C e => by
  obtain ⟨i, rfl⟩ := cA_ca c C e
  exact ⟨T.cl i, T.na_world i⟩
theorem Tx.fld_answers {X : Cx} (T : Tx X.K mg fa fdt ca ea) : FldOk X ⟨cA ca, xA ea⟩ "answers" := fun c C e => by
  obtain ⟨i, rfl⟩ := cA_ca c C e
  exact ⟨T.cl i, T.na_answers i⟩
theorem Tx.fld_place {X : Cx} (T : Tx X.K mg fa fdt ca ea) : FldOk X ⟨cA ca, xA ea⟩ "place" := fun c C e => by
  obtain ⟨i, rfl⟩ := cA_ca c C e
  exact ⟨T.cl i, T.na_place i⟩
theorem Tx.fld_wanted {X : Cx} (T : Tx X.K mg fa fdt ca ea) : FldOk X ⟨cA ca, xA ea⟩ "wanted" := fun c C e => by
  obtain ⟨i, rfl⟩ := cA_ca c C e
  exact ⟨T.cl i, T.na_wanted i⟩
theorem Tx.fld_cells {X : Cx} (T : Tx X.K mg fa fdt ca ea) : FldOk X ⟨cA ca, xA ea⟩ "cells" := fun c C e => by
  obtain ⟨i, rfl⟩ := cA_ca c C e
  exact ⟨T.cl i, T.na_cells i⟩
theorem Tx.fld_kept {X : Cx} (T : Tx X.K mg fa fdt ca ea) : FldOk X ⟨cA ca, xA ea⟩ "kept" := fun c C e => by
  obtain ⟨i, rfl⟩ := cA_ca c C e
  exact ⟨T.cl i, T.na_kept i⟩
theorem Tx.fld_asked {X : Cx} (T : Tx X.K mg fa fdt ca ea) : FldOk X ⟨cA ca, xA ea⟩ "asked" := fun c C e => by
  obtain ⟨i, rfl⟩ := cA_ca c C e
  exact ⟨T.cl i, T.na_asked i⟩
theorem Tx.fld_many {X : Cx} (T : Tx X.K mg fa fdt ca ea) : FldOk X ⟨cA ca, xA ea⟩ "many" := fun c C e => by
  obtain ⟨i, rfl⟩ := cA_ca c C e
  exact ⟨T.cl i, T.na_many i⟩
theorem Tx.fld_spoken {X : Cx} (T : Tx X.K mg fa fdt ca ea) : FldOk X ⟨cA ca, xA ea⟩ "spoken" := fun c C e => by
  obtain ⟨i, rfl⟩ := cA_ca c C e
  exact ⟨T.cl i, T.na_spoken i⟩
theorem Tx.fld_marks {X : Cx} (T : Tx X.K mg fa fdt ca ea) : FldOk X ⟨cA ca, xA ea⟩ "marks" := fun c C e => by
  obtain ⟨i, rfl⟩ := cA_ca c C e
  exact ⟨T.cl i, T.na_marks i⟩
abbrev Ok (P : Program) (w : World) (K : PySem.W.Frag) (mg : Str → Option Value) (base : Heap) (fa : Fid → Addr) (fdt : Fid → FuncData) (ca : Cid → Addr) (ea : Eid → Addr) (n : Nat) (i : Fid) : Prop := FnOk P w K mg base (L2.CX P w) n (fa i) (fdt i) (pas i) (spD ⟨K, cA ca, xA ea⟩ (np i) (sem n i))
theorem sc_m_Run_init : FnScope ["self", "rules", "answers", "world"] (pas .m_Run_init) (defScope (stm .m_Run_init)) := ⟨rfl, rfl, rfl, by decide +kernel, rfl, by decide +kernel, by decide +kernel⟩
theorem ok_m_Run_init {n : Nat} (T : Tx K mg fa fdt ca ea) (ih : ∀ i, Ok P w K mg base fa fdt ca ea (n + 1) i) (ih2 : ∀ i, Ok P w K mg base fa fdt ca ea n i) : Ok P w K mg base fa fdt ca ea (n + 2) .m_Run_init := by
  show FnOk P w K mg base (L2.CX P w) (n + 1 + 1) (fa .m_Run_init) (fdt .m_Run_init) (pas .m_Run_init) (spD ⟨K, cA ca, xA ea⟩ 4 (runFn 4 4 (b_m_Run_init (csem (n + 1)) (csem n))))
  refine fn_ok (T := ⟨cA ca, xA ea⟩) (np := 4) (N := ["self", "rules", "answers", "world"]) (b := b_m_Run_init (csem (n + 1)) (csem n)) (T.fn .m_Run_init) sc_m_Run_init rfl (fun cdv A outer s H E hr => ?_)
  unfold b_m_Run_init
  exact (pssd_cons (psd_fld (T.fld_rules) (pd_var 0) (pd_var 1))
    (pssd_cons (psd_fld (T.fld_world) (pd_var 0) (pd_var 3))
    (pssd_cons (psd_fld (T.fld_answers) (pd_var 0) (pd_var 2))
    (pssd_cons (psd_fld (T.fld_place) (pd_var 0) pd_int)
    (pssd_cons (psd_fld (T.fld_wanted) (pd_var 0) pd_non)
    (pssd_one (psd_fld (T.fld_cells) (pd_var 0) (pd_lst pda_nil))))))))
theorem sc_m_Run_touch : FnScope ["self", "mark"] (pas .m_Run_touch) (defScope (stm .m_Run_touch)) := ⟨rfl, rfl, rfl, by decide +kernel, rfl, by decide +kernel, by decide +kernel⟩
theorem ok_m_Run_touch {n : Nat} (T : Tx K mg fa fdt ca ea) (ih : ∀ i, Ok P w K mg base fa fdt ca ea (n + 1) i) (ih2 : ∀ i, Ok P w K mg base fa fdt ca ea n i) : Ok P w K mg base fa fdt ca ea (n + 2) .m_Run_touch := by
  show FnOk P w K mg base (L2.CX P w) (n + 1 + 1) (fa .m_Run_touch) (fdt .m_Run_touch) (pas .m_Run_touch) (spD ⟨K, cA ca, xA ea⟩ 2 (runFn 2 2 (b_m_Run_touch (csem (n + 1)) (csem n))))
  refine fn_ok (T := ⟨cA ca, xA ea⟩) (np := 2) (N := ["self", "mark"]) (b := b_m_Run_touch (csem (n + 1)) (csem n)) (T.fn .m_Run_touch) sc_m_Run_touch rfl (fun cdv A outer s H E hr => ?_)
  unfold b_m_Run_touch
  exact (pssd_cons (psd_if (ptd_cmp od_notN (pd_fld (T.fld_world) (pd_var 0)) pd_non (nomark _)) (pssd_one (psd_ret (pd_meth (c := "World") (pd_fld (T.fld_world) (pd_var 0)) (cA_World ca) (T.cl .World) T.me_m_World_touched (ih .m_World_touched) (hr.mono (Nat.le_refl _)) (T.bd .m_World_touched) (takes_of rfl rfl rfl rfl) (pda_cons (pd_var 1) pda_nil)))) pssd_nil)
    (pssd_cons (psd_if (ptd_cmp (od_eq hr.units) (pd_fld (T.fld_place) (pd_var 0)) (pd_callB cd_len (by rfl) T.z_len (by rfl) (pda_cons (pd_fld (T.fld_answers) (pd_var 0)) pda_nil)) (nomark _)) (pssd_cons (psd_fld (T.fld_wanted) (pd_var 0) (pd_var 1))
    (pssd_one (psd_raise0 rfl (takes_of rfl rfl rfl rfl) (xA_Pause ea) (T.xc .Pause) T.mg_Pause (by rfl)))) pssd_nil)
    (pssd_cons (psd_fld (T.fld_place) (pd_var 0) (pd_bin od_add (pd_fld (T.fld_place) (pd_var 0)) pd_int))
    (pssd_one (psd_ret (pd_sub (hu_of hr) (pd_fld (T.fld_answers) (pd_var 0)) (pd_bin od_sub (pd_fld (T.fld_place) (pd_var 0)) pd_int)))))))
theorem sc_m_Run_worth : FnScope ["self", "deed", "known", "word", "handed", "there"] (pas .m_Run_worth) (defScope (stm .m_Run_worth)) := ⟨rfl, rfl, rfl, by decide +kernel, rfl, by decide +kernel, by decide +kernel⟩
theorem ok_m_Run_worth {n : Nat} (T : Tx K mg fa fdt ca ea) (ih : ∀ i, Ok P w K mg base fa fdt ca ea (n + 1) i) (ih2 : ∀ i, Ok P w K mg base fa fdt ca ea n i) : Ok P w K mg base fa fdt ca ea (n + 2) .m_Run_worth := by
  show FnOk P w K mg base (L2.CX P w) (n + 1 + 1) (fa .m_Run_worth) (fdt .m_Run_worth) (pas .m_Run_worth) (spD ⟨K, cA ca, xA ea⟩ 3 (runFn 3 6 (b_m_Run_worth (csem (n + 1)) (csem n))))
  refine fn_ok (T := ⟨cA ca, xA ea⟩) (np := 3) (N := ["self", "deed", "known", "word", "handed", "there"]) (b := b_m_Run_worth (csem (n + 1)) (csem n)) (T.fn .m_Run_worth) sc_m_Run_worth rfl (fun cdv A outer s H E hr => ?_)
  unfold b_m_Run_worth
  exact (pssd_cons (psd_asg (pd_sub (hu_of hr) (pd_var 1) pd_int) (pgd_name 3 sc_m_Run_worth.nd))
    (pssd_cons (psd_if (ptd_cmp (od_eq hr.units) (pd_var 3) pd_str (nomark _)) (pssd_one (psd_ret (pd_sub (hu_of hr) (pd_var 1) pd_int))) pssd_nil)
    (pssd_cons (psd_if (ptd_cmp (od_eq hr.units) (pd_var 3) pd_str (nomark _)) (pssd_one (psd_ret (pd_sub (hu_of hr) (pd_var 2) (pd_sub (hu_of hr) (pd_var 1) pd_int)))) pssd_nil)
    (pssd_cons (psd_if (ptd_cmp (od_in hr.u65) (pd_var 3) (pd_tup (pda_cons pd_str (pda_cons pd_str pda_nil))) (by rfl)) (pssd_one (psd_ret (pd_meth (c := "Run") (pd_var 0) (cA_Run ca) (T.cl .Run) T.me_m_Run_at_shelf (ih .m_Run_at_shelf) (hr.mono (Nat.le_refl _)) (T.bd .m_Run_at_shelf) (takes_of rfl rfl rfl rfl) (pda_cons (pd_var 1) (pda_cons (pd_var 2) pda_nil))))) pssd_nil)
    (pssd_cons (psd_if (ptd_cmp (od_eq hr.units) (pd_var 3) pd_str (nomark _)) (pssd_one (psd_ret (pd_meth (c := "Run") (pd_var 0) (cA_Run ca) (T.cl .Run) T.me_m_Run_touch (ih .m_Run_touch) (hr.mono (Nat.le_refl _)) (T.bd .m_Run_touch) (takes_of rfl rfl rfl rfl) (pda_cons (pd_tup (pda_cons pd_str pda_nil)) pda_nil)))) pssd_nil)
    (pssd_cons (psd_if (ptd_cmp (od_eq hr.units) (pd_var 3) pd_str (nomark _)) (pssd_one (psd_ret (pd_meth (c := "Run") (pd_var 0) (cA_Run ca) (T.cl .Run) T.me_m_Run_touch (ih .m_Run_touch) (hr.mono (Nat.le_refl _)) (T.bd .m_Run_touch) (takes_of rfl rfl rfl rfl) (pda_cons (pd_tup (pda_cons pd_str (pda_cons (pd_meth (c := "Run") (pd_var 0) (cA_Run ca) (T.cl .Run) T.me_m_Run_worth (ih .m_Run_worth) (hr.mono (Nat.le_refl _)) (T.bd .m_Run_worth) (takes_of rfl rfl rfl rfl) (pda_cons (pd_sub (hu_of hr) (pd_var 1) pd_int) (pda_cons (pd_var 2) pda_nil))) pda_nil))) pda_nil)))) pssd_nil)
    (pssd_cons (psd_if (ptd_cmp (od_eq hr.units) (pd_var 3) pd_str (nomark _)) (pssd_cons (psd_asg (pd_sub (hu_of hr) (pd_var 2) (pd_sub (hu_of hr) (pd_var 1) pd_int)) (pgd_tup (n := 2) rfl (pgd_cons (pgd_name 4 sc_m_Run_worth.nd) (pgd_cons (pgd_name 5 sc_m_Run_worth.nd) pgd_nil))))
    (pssd_one (psd_ret (pd_meth (c := "Run") (pd_var 0) (cA_Run ca) (T.cl .Run) T.me_m_Run_worth (ih .m_Run_worth) (hr.mono (Nat.le_refl _)) (T.bd .m_Run_worth) (takes_of rfl rfl rfl rfl) (pda_cons (pd_var 4) (pda_cons (pd_var 5) pda_nil)))))) pssd_nil)
    (pssd_cons (psd_if (ptd_cmp (od_in hr.u65) (pd_var 3) (pd_tup (pda_cons pd_str (pda_cons pd_str (pda_cons pd_str pda_nil)))) (by rfl)) (pssd_one (psd_ret (pd_meth (c := "Run") (pd_var 0) (cA_Run ca) (T.cl .Run) T.me_m_Run_with_names (ih .m_Run_with_names) (hr.mono (Nat.le_refl _)) (T.bd .m_Run_with_names) (takes_of rfl rfl rfl rfl) (pda_cons (pd_var 1) (pda_cons (pd_var 2) pda_nil))))) pssd_nil)
    (pssd_one (psd_ret (pd_meth (c := "Run") (pd_var 0) (cA_Run ca) (T.cl .Run) T.me_m_Run_put_together (ih .m_Run_put_together) (hr.mono (Nat.le_refl _)) (T.bd .m_Run_put_together) (takes_of rfl rfl rfl rfl) (pda_cons (pd_var 1) (pda_cons (pd_var 2) pda_nil)))))))))))))
theorem sc_m_Run_at_shelf : FnScope ["self", "deed", "known", "where", "worth"] (pas .m_Run_at_shelf) (defScope (stm .m_Run_at_shelf)) := ⟨rfl, rfl, rfl, by decide +kernel, rfl, by decide +kernel, by decide +kernel⟩
theorem ok_m_Run_at_shelf {n : Nat} (T : Tx K mg fa fdt ca ea) (ih : ∀ i, Ok P w K mg base fa fdt ca ea (n + 1) i) (ih2 : ∀ i, Ok P w K mg base fa fdt ca ea n i) : Ok P w K mg base fa fdt ca ea (n + 2) .m_Run_at_shelf := by
  show FnOk P w K mg base (L2.CX P w) (n + 1 + 1) (fa .m_Run_at_shelf) (fdt .m_Run_at_shelf) (pas .m_Run_at_shelf) (spD ⟨K, cA ca, xA ea⟩ 3 (runFn 3 5 (b_m_Run_at_shelf (csem (n + 1)) (csem n))))
  refine fn_ok (T := ⟨cA ca, xA ea⟩) (np := 3) (N := ["self", "deed", "known", "where", "worth"]) (b := b_m_Run_at_shelf (csem (n + 1)) (csem n)) (T.fn .m_Run_at_shelf) sc_m_Run_at_shelf rfl (fun cdv A outer s H E hr => ?_)
  unfold b_m_Run_at_shelf
  exact (pssd_cons (psd_asg (pd_get2 (hu_of hr) (pd_var 2) (pd_sub (hu_of hr) (pd_var 1) pd_int) (pd_sub (hu_of hr) (pd_var 1) pd_int)) (pgd_name 3 sc_m_Run_at_shelf.nd))
    (pssd_cons (psd_if (ptd_cmp (od_eq hr.units) (pd_sub (hu_of hr) (pd_var 1) pd_int) pd_str (nomark _)) (pssd_one (psd_ret (pd_if (ptd_val (pd_isi (by rfl) T.z_isinstance (by rfl) T.z_str (by rfl) (by rfl) (pd_var 3))) (pd_meth (c := "Run") (pd_var 0) (cA_Run ca) (T.cl .Run) T.me_m_Run_touch (ih .m_Run_touch) (hr.mono (Nat.le_refl _)) (T.bd .m_Run_touch) (takes_of rfl rfl rfl rfl) (pda_cons (pd_tup (pda_cons pd_str (pda_cons (pd_var 3) pda_nil))) pda_nil)) (pd_sub (hu_of hr) (pd_fld (T.fld_cells) (pd_var 0)) (pd_var 3))))) pssd_nil)
    (pssd_cons (psd_asg (pd_meth (c := "Run") (pd_var 0) (cA_Run ca) (T.cl .Run) T.me_m_Run_worth (ih .m_Run_worth) (hr.mono (Nat.le_refl _)) (T.bd .m_Run_worth) (takes_of rfl rfl rfl rfl) (pda_cons (pd_sub (hu_of hr) (pd_var 1) pd_int) (pda_cons (pd_var 2) pda_nil))) (pgd_name 4 sc_m_Run_at_shelf.nd))
    (pssd_cons (psd_if (ptd_val (pd_isi (by rfl) T.z_isinstance (by rfl) T.z_str (by rfl) (by rfl) (pd_var 3))) (pssd_one (psd_ret (pd_meth (c := "Run") (pd_var 0) (cA_Run ca) (T.cl .Run) T.me_m_Run_touch (ih .m_Run_touch) (hr.mono (Nat.le_refl _)) (T.bd .m_Run_touch) (takes_of rfl rfl rfl rfl) (pda_cons (pd_tup (pda_cons pd_str (pda_cons (pd_var 3) (pda_cons (pd_var 4) pda_nil)))) pda_nil)))) pssd_nil)
    (pssd_cons (psd_put (hu_of hr) (pd_fld (T.fld_cells) (pd_var 0)) (pd_var 3) (pd_var 4))
    (pssd_one (psd_ret (pd_var 4))))))))
theorem sc_m_Run_with_names : FnScope ["self", "deed", "known", "names", "handed", "body", "there", "worth", "name", "part"] (pas .m_Run_with_names) (defScope (stm .m_Run_with_names)) := ⟨rfl, rfl, rfl, by decide +kernel, rfl, by decide +kernel, by decide +kernel⟩
theorem ok_m_Run_with_names {n : Nat} (T : Tx K mg fa fdt ca ea) (ih : ∀ i, Ok P w K mg base fa fdt ca ea (n + 1) i) (ih2 : ∀ i, Ok P w K mg base fa fdt ca ea n i) : Ok P w K mg base fa fdt ca ea (n + 2) .m_Run_with_names := by
  show FnOk P w K mg base (L2.CX P w) (n + 1 + 1) (fa .m_Run_with_names) (fdt .m_Run_with_names) (pas .m_Run_with_names) (spD ⟨K, cA ca, xA ea⟩ 3 (runFn 3 10 (b_m_Run_with_names (csem (n + 1)) (csem n))))
  refine fn_ok (T := ⟨cA ca, xA ea⟩) (np := 3) (N := ["self", "deed", "known", "names", "handed", "body", "there", "worth", "name", "part"]) (b := b_m_Run_with_names (csem (n + 1)) (csem n)) (T.fn .m_Run_with_names) sc_m_Run_with_names rfl (fun cdv A outer s H E hr => ?_)
  unfold b_m_Run_with_names
  exact (pssd_cons (psd_if (ptd_cmp (od_eq hr.units) (pd_sub (hu_of hr) (pd_var 1) pd_int) pd_str (nomark _)) (pssd_cons (psd_asg (pd_sub (hu_of hr) (pd_fld (T.fld_rules) (pd_var 0)) (pd_sub (hu_of hr) (pd_var 1) pd_int)) (pgd_tup (n := 3) rfl (pgd_cons (pgd_name 3 sc_m_Run_with_names.nd) (pgd_cons (pgd_name 4 sc_m_Run_with_names.nd) (pgd_cons (pgd_name 5 sc_m_Run_with_names.nd) pgd_nil)))))
    (pssd_cons (psd_asg (pd_callTy (cd_dict rfl) (by rfl) T.z_dict (by rfl) (pda_cons (pd_lc (own := [("name", 8), ("part", 9)]) rfl (by exact sc_m_Run_with_names.nd) (by exact (pid_zip (by rfl) T.z_zip (pd_var 3) (pd_sub (hu_of hr) (pd_var 1) pd_int))) (by exact (blkOk_by (own := [("name", 8), ("part", 9)]) (N := ["self", "deed", "known", "names", "handed", "body", "there", "worth", "name", "part"]) (sc := defScope (stm .m_Run_with_names)) (by decide +kernel))) (fun _ _ _ _ _ => by exact (pgd_tup (n := 2) rfl (pgd_cons (pgd_name 8 sc_m_Run_with_names.nd) (pgd_cons (pgd_name 9 sc_m_Run_with_names.nd) pgd_nil)))) (fun _ _ _ _ _ => by exact ptsd_nil) (fun _ _ _ _ _ => by exact (pd_tup (pda_cons (pd_var 8) (pda_cons (pd_meth (c := "Run") (pd_var 0) (cA_Run ca) (T.cl .Run) T.me_m_Run_worth (ih .m_Run_worth) (hr.mono (Nat.le_refl _)) (T.bd .m_Run_worth) takes0 (pda_cons (pd_var 9) (pda_cons (pd_var 2) pda_nil))) pda_nil))))) pda_nil)) (pgd_name 6 sc_m_Run_with_names.nd))
    (pssd_cons (psd_expr (pd_update (pd_var 6) (pd_callTy (cd_dict rfl) (by rfl) T.z_dict (by rfl) (pda_cons (pd_lc (own := [("name", 8), ("part", 9)]) rfl (by exact sc_m_Run_with_names.nd) (by exact (pid_zip (by rfl) T.z_zip (pd_var 4) (pd_sub (hu_of hr) (pd_var 1) pd_int))) (by exact (blkOk_by (own := [("name", 8), ("part", 9)]) (N := ["self", "deed", "known", "names", "handed", "body", "there", "worth", "name", "part"]) (sc := defScope (stm .m_Run_with_names)) (by decide +kernel))) (fun _ _ _ _ _ => by exact (pgd_tup (n := 2) rfl (pgd_cons (pgd_name 8 sc_m_Run_with_names.nd) (pgd_cons (pgd_name 9 sc_m_Run_with_names.nd) pgd_nil)))) (fun _ _ _ _ _ => by exact ptsd_nil) (fun _ _ _ _ _ => by exact (pd_tup (pda_cons (pd_var 8) (pda_cons (pd_tup (pda_cons (pd_var 9) (pda_cons (pd_var 2) pda_nil))) pda_nil))))) pda_nil))))
    (pssd_one (psd_ret (pd_meth (c := "Run") (pd_var 0) (cA_Run ca) (T.cl .Run) T.me_m_Run_worth (ih .m_Run_worth) (hr.mono (Nat.le_refl _)) (T.bd .m_Run_worth) (takes_of rfl rfl rfl rfl) (pda_cons (pd_var 5) (pda_cons (pd_var 6) pda_nil)))))))) pssd_nil)
    (pssd_cons (psd_asg (pd_meth (c := "Run") (pd_var 0) (cA_Run ca) (T.cl .Run) T.me_m_Run_worth (ih .m_Run_worth) (hr.mono (Nat.le_refl _)) (T.bd .m_Run_worth) (takes_of rfl rfl rfl rfl) (pda_cons (pd_sub (hu_of hr) (pd_var 1) pd_int) (pda_cons (pd_var 2) pda_nil))) (pgd_name 7 sc_m_Run_with_names.nd))
    (pssd_cons (psd_asg (pd_callTy (cd_dict rfl) (by rfl) T.z_dict (by rfl) (pda_cons (pd_var 2) pda_nil)) (pgd_name 6 sc_m_Run_with_names.nd))
    (pssd_cons (psd_put (hu_of hr) (pd_var 6) (pd_sub (hu_of hr) (pd_var 1) pd_int) (pd_var 7))
    (pssd_cons (psd_if (ptd_cmp (od_eq hr.units) (pd_sub (hu_of hr) (pd_var 1) pd_int) pd_str (nomark _)) (pssd_cons (psd_expr (pd_append (pd_fld (T.fld_cells) (pd_var 0)) (pd_var 7)))
    (pssd_one (psd_put (hu_of hr) (pd_var 6) (pd_sub (hu_of hr) (pd_var 1) pd_int) (pd_bin od_sub (pd_callB cd_len (by rfl) T.z_len (by rfl) (pda_cons (pd_fld (T.fld_cells) (pd_var 0)) pda_nil)) pd_int)))) pssd_nil)
    (pssd_one (psd_ret (pd_meth (c := "Run") (pd_var 0) (cA_Run ca) (T.cl .Run) T.me_m_Run_worth (ih .m_Run_worth) (hr.mono (Nat.le_refl _)) (T.bd .m_Run_worth) (takes_of rfl rfl rfl rfl) (pda_cons (pd_sub (hu_of hr) (pd_var 1) pd_int) (pda_cons (pd_var 6) pda_nil))))))))))
theorem sc_m_Run_put_together : FnScope ["self", "deed", "known", "word", "first", "turn", "second"] (pas .m_Run_put_together) (defScope (stm .m_Run_put_together)) := ⟨rfl, rfl, rfl, by decide +kernel, rfl, by decide +kernel, by decide +kernel⟩
theorem ok_m_Run_put_together {n : Nat} (T : Tx K mg fa fdt ca ea) (ih : ∀ i, Ok P w K mg base fa fdt ca ea (n + 1) i) (ih2 : ∀ i, Ok P w K mg base fa fdt ca ea n i) : Ok P w K mg base fa fdt ca ea (n + 2) .m_Run_put_together := by
  show FnOk P w K mg base (L2.CX P w) (n + 1 + 1) (fa .m_Run_put_together) (fdt .m_Run_put_together) (pas .m_Run_put_together) (spD ⟨K, cA ca, xA ea⟩ 3 (runFn 3 7 (b_m_Run_put_together (csem (n + 1)) (csem n))))
  refine fn_ok (T := ⟨cA ca, xA ea⟩) (np := 3) (N := ["self", "deed", "known", "word", "first", "turn", "second"]) (b := b_m_Run_put_together (csem (n + 1)) (csem n)) (T.fn .m_Run_put_together) sc_m_Run_put_together rfl (fun cdv A outer s H E hr => ?_)
  unfold b_m_Run_put_together
  exact (pssd_cons (psd_asg (pd_sub (hu_of hr) (pd_var 1) pd_int) (pgd_name 3 sc_m_Run_put_together.nd))
    (pssd_cons (psd_asg (pd_meth (c := "Run") (pd_var 0) (cA_Run ca) (T.cl .Run) T.me_m_Run_worth (ih .m_Run_worth) (hr.mono (Nat.le_refl _)) (T.bd .m_Run_worth) (takes_of rfl rfl rfl rfl) (pda_cons (pd_sub (hu_of hr) (pd_var 1) pd_int) (pda_cons (pd_var 2) pda_nil))) (pgd_name 4 sc_m_Run_put_together.nd))
    (pssd_cons (psd_if (ptd_cmp (od_eq hr.units) (pd_var 3) pd_str (nomark _)) (pssd_one (psd_ret (pd_meth (c := "Run") (pd_var 0) (cA_Run ca) (T.cl .Run) T.me_m_Run_worth (ih .m_Run_worth) (hr.mono (Nat.le_refl _)) (T.bd .m_Run_worth) (takes_of rfl rfl rfl rfl) (pda_cons (pd_if (ptd_cmp (od_ne hr.units) (pd_var 4) pd_int (nomark _)) (pd_sub (hu_of hr) (pd_var 1) pd_int) (pd_sub (hu_of hr) (pd_var 1) pd_int)) (pda_cons (pd_var 2) pda_nil))))) pssd_nil)
    (pssd_cons (psd_if (ptd_cmp (od_eq hr.units) (pd_var 3) pd_str (nomark _)) (pssd_cons (psd_for (passes_of rfl) rfl (pid_range1 (by rfl) T.z_range (pd_bin od_mod (pd_var 4) (pd_gint (by rfl) T.g_MOST_TURNS.choose_spec))) (pgd_name 5 sc_m_Run_put_together.nd) (pssd_one (psd_expr (pd_meth (c := "Run") (pd_var 0) (cA_Run ca) (T.cl .Run) T.me_m_Run_worth (ih .m_Run_worth) (hr.mono (Nat.le_refl _)) (T.bd .m_Run_worth) (takes_of rfl rfl rfl rfl) (pda_cons (pd_sub (hu_of hr) (pd_var 1) pd_int) (pda_cons (pd_var 2) pda_nil))))))
    (pssd_one (psd_ret pd_int))) pssd_nil)
    (pssd_cons (psd_asg (pd_meth (c := "Run") (pd_var 0) (cA_Run ca) (T.cl .Run) T.me_m_Run_worth (ih .m_Run_worth) (hr.mono (Nat.le_refl _)) (T.bd .m_Run_worth) (takes_of rfl rfl rfl rfl) (pda_cons (pd_sub (hu_of hr) (pd_var 1) pd_int) (pda_cons (pd_var 2) pda_nil))) (pgd_name 6 sc_m_Run_put_together.nd))
    (pssd_cons (psd_if (ptd_cmp (od_eq hr.units) (pd_var 3) pd_str (nomark _)) (pssd_one (psd_ret (pd_var 6))) pssd_nil)
    (pssd_one (psd_ret (pd_if (ptd_cmp (od_eq hr.units) (pd_var 3) pd_str (nomark _)) (pd_bin od_mod (pd_bin od_add (pd_var 4) (pd_var 6)) (pd_gint (by rfl) T.g_SIZE.choose_spec)) (pd_callTy cd_int (by rfl) T.z_int (by rfl) (pda_cons (pd_cmp od_lt (pd_var 4) (pd_var 6) (nomark _)) pda_nil)))))))))))
theorem sc_m_World_init : FnScope ["self", "store", "asked"] (pas .m_World_init) (defScope (stm .m_World_init)) := ⟨rfl, rfl, rfl, by decide +kernel, rfl, by decide +kernel, by decide +kernel⟩
theorem ok_m_World_init {n : Nat} (T : Tx K mg fa fdt ca ea) (ih : ∀ i, Ok P w K mg base fa fdt ca ea (n + 1) i) (ih2 : ∀ i, Ok P w K mg base fa fdt ca ea n i) : Ok P w K mg base fa fdt ca ea (n + 2) .m_World_init := by
  show FnOk P w K mg base (L2.CX P w) (n + 1 + 1) (fa .m_World_init) (fdt .m_World_init) (pas .m_World_init) (spD ⟨K, cA ca, xA ea⟩ 3 (runFn 3 3 (b_m_World_init (csem (n + 1)) (csem n))))
  refine fn_ok (T := ⟨cA ca, xA ea⟩) (np := 3) (N := ["self", "store", "asked"]) (b := b_m_World_init (csem (n + 1)) (csem n)) (T.fn .m_World_init) sc_m_World_init rfl (fun cdv A outer s H E hr => ?_)
  unfold b_m_World_init
  exact (pssd_cons (psd_fld (T.fld_kept) (pd_var 0) (pd_dictZip rfl (by rfl) T.z_dict (by rfl) T.z_zip (pd_gstr (by rfl) T.g_SHELVES.choose_spec) (pd_var 1)))
    (pssd_cons (psd_fld (T.fld_asked) (pd_var 0) (pd_var 2))
    (pssd_cons (psd_fld (T.fld_many) (pd_var 0) pd_int)
    (pssd_cons (psd_fld (T.fld_spoken) (pd_var 0) (pd_lst pda_nil))
    (pssd_one (psd_fld (T.fld_marks) (pd_var 0) (pd_lst pda_nil)))))))
theorem sc_m_World_touched : FnScope ["self", "mark", "answer"] (pas .m_World_touched) (defScope (stm .m_World_touched)) := ⟨rfl, rfl, rfl, by decide +kernel, rfl, by decide +kernel, by decide +kernel⟩
theorem ok_m_World_touched {n : Nat} (T : Tx K mg fa fdt ca ea) (ih : ∀ i, Ok P w K mg base fa fdt ca ea (n + 1) i) (ih2 : ∀ i, Ok P w K mg base fa fdt ca ea n i) : Ok P w K mg base fa fdt ca ea (n + 2) .m_World_touched := by
  show FnOk P w K mg base (L2.CX P w) (n + 1 + 1) (fa .m_World_touched) (fdt .m_World_touched) (pas .m_World_touched) (spD ⟨K, cA ca, xA ea⟩ 2 (runFn 2 3 (b_m_World_touched (csem (n + 1)) (csem n))))
  refine fn_ok (T := ⟨cA ca, xA ea⟩) (np := 2) (N := ["self", "mark", "answer"]) (b := b_m_World_touched (csem (n + 1)) (csem n)) (T.fn .m_World_touched) sc_m_World_touched rfl (fun cdv A outer s H E hr => ?_)
  unfold b_m_World_touched
  exact (pssd_cons (psd_if (ptd_cmp (od_eq hr.units) (pd_sub (hu_of hr) (pd_var 1) pd_int) pd_str (nomark _)) (pssd_cons (psd_asg (pd_if (ptd_cmp od_lt (pd_fld (T.fld_many) (pd_var 0)) (pd_callB cd_len (by rfl) T.z_len (by rfl) (pda_cons (pd_fld (T.fld_asked) (pd_var 0)) pda_nil)) (nomark _)) (pd_sub (hu_of hr) (pd_fld (T.fld_asked) (pd_var 0)) (pd_fld (T.fld_many) (pd_var 0))) pd_int) (pgd_name 2 sc_m_World_touched.nd))
    (pssd_one (psd_fld (T.fld_many) (pd_var 0) (pd_bin od_add (pd_fld (T.fld_many) (pd_var 0)) pd_int)))) (pssd_one (psd_if (ptd_cmp (od_eq hr.units) (pd_sub (hu_of hr) (pd_var 1) pd_int) pd_str (nomark _)) (pssd_one (psd_asg (pd_sub (hu_of hr) (pd_fld (T.fld_kept) (pd_var 0)) (pd_sub (hu_of hr) (pd_var 1) pd_int)) (pgd_name 2 sc_m_World_touched.nd))) (pssd_one (psd_asg (pd_sub (hu_of hr) (pd_var 1) (pd_neg pd_int)) (pgd_name 2 sc_m_World_touched.nd))))))
    (pssd_cons (psd_if (ptd_cmp (od_eq hr.units) (pd_sub (hu_of hr) (pd_var 1) pd_int) pd_str (nomark _)) (pssd_one (psd_put (hu_of hr) (pd_fld (T.fld_kept) (pd_var 0)) (pd_sub (hu_of hr) (pd_var 1) pd_int) (pd_var 2))) pssd_nil)
    (pssd_cons (psd_if (ptd_cmp (od_eq hr.units) (pd_sub (hu_of hr) (pd_var 1) pd_int) pd_str (nomark _)) (pssd_one (psd_expr (pd_append (pd_fld (T.fld_spoken) (pd_var 0)) (pd_var 2)))) pssd_nil)
    (pssd_cons (psd_expr (pd_append (pd_fld (T.fld_marks) (pd_var 0)) (pd_if (ptd_cmp (od_in hr.u65) (pd_sub (hu_of hr) (pd_var 1) pd_int) (pd_tup (pda_cons pd_str (pda_cons pd_str pda_nil))) (by rfl)) (pd_var 1) (pd_bin od_add (pd_var 1) (pd_tup (pda_cons (pd_var 2) pda_nil))))))
    (pssd_one (psd_ret (pd_var 2)))))))
theorem sc_m_World_shelves : FnScope ["self", "shelf"] (pas .m_World_shelves) (defScope (stm .m_World_shelves)) := ⟨rfl, rfl, rfl, by decide +kernel, rfl, by decide +kernel, by decide +kernel⟩
theorem ok_m_World_shelves {n : Nat} (T : Tx K mg fa fdt ca ea) (ih : ∀ i, Ok P w K mg base fa fdt ca ea (n + 1) i) (ih2 : ∀ i, Ok P w K mg base fa fdt ca ea n i) : Ok P w K mg base fa fdt ca ea (n + 2) .m_World_shelves := by
  show FnOk P w K mg base (L2.CX P w) (n + 1 + 1) (fa .m_World_shelves) (fdt .m_World_shelves) (pas .m_World_shelves) (spD ⟨K, cA ca, xA ea⟩ 1 (runFn 1 2 (b_m_World_shelves (csem (n + 1)) (csem n))))
  refine fn_ok (T := ⟨cA ca, xA ea⟩) (np := 1) (N := ["self", "shelf"]) (b := b_m_World_shelves (csem (n + 1)) (csem n)) (T.fn .m_World_shelves) sc_m_World_shelves rfl (fun cdv A outer s H E hr => ?_)
  unfold b_m_World_shelves
  exact (pssd_one (psd_ret (pd_callTy cd_tuple (by rfl) T.z_tuple (by rfl) (pda_cons (pd_lc (own := [("shelf", 1)]) rfl (by exact sc_m_World_shelves.nd) (by exact (pid_any (pd_gstr (by rfl) T.g_SHELVES.choose_spec))) (by exact (blkOk_by (own := [("shelf", 1)]) (N := ["self", "shelf"]) (sc := defScope (stm .m_World_shelves)) (by decide +kernel))) (fun _ _ _ _ _ => by exact (pgd_name 1 sc_m_World_shelves.nd)) (fun _ _ _ _ _ => by exact ptsd_nil) (fun _ _ _ _ _ => by exact (pd_sub (hu_of hr) (pd_fld (T.fld_kept) (pd_var 0)) (pd_var 1)))) pda_nil))))
theorem sc_f_finished : FnScope ["rules", "deed", "world"] (pas .f_finished) (defScope (stm .f_finished)) := ⟨rfl, rfl, rfl, by decide +kernel, rfl, by decide +kernel, by decide +kernel⟩
theorem ok_f_finished {n : Nat} (T : Tx K mg fa fdt ca ea) (ih : ∀ i, Ok P w K mg base fa fdt ca ea (n + 1) i) (ih2 : ∀ i, Ok P w K mg base fa fdt ca ea n i) : Ok P w K mg base fa fdt ca ea (n + 2) .f_finished := by
  show FnOk P w K mg base (L2.CX P w) (n + 1 + 1) (fa .f_finished) (fdt .f_finished) (pas .f_finished) (spD ⟨K, cA ca, xA ea⟩ 3 (runFn 3 3 (b_f_finished (csem (n + 1)) (csem n))))
  refine fn_ok (T := ⟨cA ca, xA ea⟩) (np := 3) (N := ["rules", "deed", "world"]) (b := b_f_finished (csem (n + 1)) (csem n)) (T.fn .f_finished) sc_f_finished rfl (fun cdv A outer s H E hr => ?_)
  unfold b_f_finished
  exact (pssd_one (psd_ret (pd_meth (c := "Run") (pd_make (c := "Run") (cA_Run ca) T.mk_Run (ih2 .m_Run_init) hr (by rfl) T.mg_Run (T.bd .m_Run_init) (takes_of rfl rfl rfl rfl) (pda_cons (pd_var 0) (pda_cons (pd_lst pda_nil) (pda_cons (pd_var 2) pda_nil)))) (cA_Run ca) (T.cl .Run) T.me_m_Run_worth (ih .m_Run_worth) (hr.mono (Nat.le_refl _)) (T.bd .m_Run_worth) (takes_of rfl rfl rfl rfl) (pda_cons (pd_var 1) (pda_cons pd_dnew pda_nil)))))
theorem sc_f_run : FnScope ["rules", "deed", "store", "asked", "world", "worth"] (pas .f_run) (defScope (stm .f_run)) := ⟨rfl, rfl, rfl, by decide +kernel, rfl, by decide +kernel, by decide +kernel⟩
theorem ok_f_run {n : Nat} (T : Tx K mg fa fdt ca ea) (ih : ∀ i, Ok P w K mg base fa fdt ca ea (n + 1) i) (ih2 : ∀ i, Ok P w K mg base fa fdt ca ea n i) : Ok P w K mg base fa fdt ca ea (n + 2) .f_run := by
  show FnOk P w K mg base (L2.CX P w) (n + 1 + 1) (fa .f_run) (fdt .f_run) (pas .f_run) (spD ⟨K, cA ca, xA ea⟩ 4 (runFn 4 6 (b_f_run (csem (n + 1)) (csem n))))
  refine fn_ok (T := ⟨cA ca, xA ea⟩) (np := 4) (N := ["rules", "deed", "store", "asked", "world", "worth"]) (b := b_f_run (csem (n + 1)) (csem n)) (T.fn .f_run) sc_f_run rfl (fun cdv A outer s H E hr => ?_)
  unfold b_f_run
  exact (pssd_cons (psd_asg (pd_make (c := "World") (cA_World ca) T.mk_World (ih2 .m_World_init) hr (by rfl) T.mg_World (T.bd .m_World_init) (takes_of rfl rfl rfl rfl) (pda_cons (pd_var 2) (pda_cons (pd_var 3) pda_nil))) (pgd_name 4 sc_f_run.nd))
    (pssd_cons (psd_asg (pd_call (ih .f_finished) (hr.mono (Nat.le_refl _)) (by rfl) T.mg_f_finished T.kp_f_finished (T.bd .f_finished) (takes_of rfl rfl rfl rfl) (pda_cons (pd_var 0) (pda_cons (pd_var 1) (pda_cons (pd_var 4) pda_nil)))) (pgd_name 5 sc_f_run.nd))
    (pssd_one (psd_ret (pd_tup (pda_cons (pd_var 5) (pda_cons (pd_meth0 (c := "World") (pd_var 4) (cA_World ca) (T.cl .World) T.me_m_World_shelves (ih .m_World_shelves) (hr.mono (Nat.le_refl _)) (T.bd .m_World_shelves) (takes_of rfl rfl rfl rfl)) (pda_cons (pd_fld (T.fld_spoken) (pd_var 4)) (pda_cons (pd_fld (T.fld_many) (pd_var 4)) pda_nil)))))))))
theorem sc_f__law_cell : FnScope ["_law_script", "_law_k"] (pas .f__law_cell) (defScope (stm .f__law_cell)) := ⟨rfl, rfl, rfl, by decide +kernel, rfl, by decide +kernel, by decide +kernel⟩
theorem ok_f__law_cell {n : Nat} (T : Tx K mg fa fdt ca ea) (ih : ∀ i, Ok P w K mg base fa fdt ca ea (n + 1) i) (ih2 : ∀ i, Ok P w K mg base fa fdt ca ea n i) : Ok P w K mg base fa fdt ca ea (n + 2) .f__law_cell := by
  show FnOk P w K mg base (L2.CX P w) (n + 1 + 1) (fa .f__law_cell) (fdt .f__law_cell) (pas .f__law_cell) (spD ⟨K, cA ca, xA ea⟩ 2 (runFn 2 2 (b_f__law_cell (csem (n + 1)) (csem n))))
  refine fn_ok (T := ⟨cA ca, xA ea⟩) (np := 2) (N := ["_law_script", "_law_k"]) (b := b_f__law_cell (csem (n + 1)) (csem n)) (T.fn .f__law_cell) sc_f__law_cell rfl (fun cdv A outer s H E hr => ?_)
  unfold b_f__law_cell
  exact (pssd_cons (psd_if (ptd_cmp (od_eq hr.units) (pd_var 0) (pd_lst pda_nil) (nomark _)) (pssd_one (psd_ret (pd_bin od_mul pd_int (pd_var 1)))) pssd_nil)
    (pssd_one (psd_ret (pd_bin od_add (pd_sub (hu_of hr) (pd_var 0) (pd_bin od_mod (pd_var 1) (pd_callB cd_len (by rfl) T.z_len (by rfl) (pda_cons (pd_var 0) pda_nil)))) (pd_bin od_mul pd_int (pd_bin od_div (pd_var 1) (pd_callB cd_len (by rfl) T.z_len (by rfl) (pda_cons (pd_var 0) pda_nil))))))))
theorem sc_f__law_drawn : FnScope ["_law_script", "_law_k", "_law_many", "_law_cell_here"] (pas .f__law_drawn) (defScope (stm .f__law_drawn)) := ⟨rfl, rfl, rfl, by decide +kernel, rfl, by decide +kernel, by decide +kernel⟩
theorem ok_f__law_drawn {n : Nat} (T : Tx K mg fa fdt ca ea) (ih : ∀ i, Ok P w K mg base fa fdt ca ea (n + 1) i) (ih2 : ∀ i, Ok P w K mg base fa fdt ca ea n i) : Ok P w K mg base fa fdt ca ea (n + 2) .f__law_drawn := by
  show FnOk P w K mg base (L2.CX P w) (n + 1 + 1) (fa .f__law_drawn) (fdt .f__law_drawn) (pas .f__law_drawn) (spD ⟨K, cA ca, xA ea⟩ 3 (runFn 3 4 (b_f__law_drawn (csem (n + 1)) (csem n))))
  refine fn_ok (T := ⟨cA ca, xA ea⟩) (np := 3) (N := ["_law_script", "_law_k", "_law_many", "_law_cell_here"]) (b := b_f__law_drawn (csem (n + 1)) (csem n)) (T.fn .f__law_drawn) sc_f__law_drawn rfl (fun cdv A outer s H E hr => ?_)
  unfold b_f__law_drawn
  exact (pssd_cons (psd_asg (pd_bin od_mod (pd_bin od_add (pd_bin od_mul (pd_bin od_mod (pd_call (ih .f__law_cell) (hr.mono (Nat.le_refl _)) (by rfl) T.mg_f__law_cell T.kp_f__law_cell (T.bd .f__law_cell) (takes_of rfl rfl rfl rfl) (pda_cons (pd_var 0) (pda_cons (pd_var 1) pda_nil))) pd_int) pd_int) (pd_bin od_mul pd_int (pd_bin od_add (pd_var 1) pd_int))) pd_int) (pgd_name 3 sc_f__law_drawn.nd))
    (pssd_cons (psd_asg (pd_bin od_mod (pd_bin od_add (pd_bin od_mul (pd_var 3) (pd_var 3)) (pd_bin od_div (pd_var 3) pd_int)) pd_int) (pgd_name 3 sc_f__law_drawn.nd))
    (pssd_one (psd_ret (pd_bin od_mod (pd_bin od_div (pd_bin od_mod (pd_bin od_add (pd_bin od_mul (pd_var 3) (pd_var 3)) (pd_bin od_div (pd_var 3) pd_int)) pd_int) pd_int) (pd_var 2))))))
theorem sc_f__law_leaf : FnScope ["_law_script", "_law_at", "_law_known", "_law_names", "_law_owns", "_law_handed", "_law_way", "_law_shelves"] (pas .f__law_leaf) (defScope (stm .f__law_leaf)) := ⟨rfl, rfl, rfl, by decide +kernel, rfl, by decide +kernel, by decide +kernel⟩
theorem ok_f__law_leaf {n : Nat} (T : Tx K mg fa fdt ca ea) (ih : ∀ i, Ok P w K mg base fa fdt ca ea (n + 1) i) (ih2 : ∀ i, Ok P w K mg base fa fdt ca ea n i) : Ok P w K mg base fa fdt ca ea (n + 2) .f__law_leaf := by
  show FnOk P w K mg base (L2.CX P w) (n + 1 + 1) (fa .f__law_leaf) (fdt .f__law_leaf) (pas .f__law_leaf) (spD ⟨K, cA ca, xA ea⟩ 3 (runFn 3 8 (b_f__law_leaf (csem (n + 1)) (csem n))))
  refine fn_ok (T := ⟨cA ca, xA ea⟩) (np := 3) (N := ["_law_script", "_law_at", "_law_known", "_law_names", "_law_owns", "_law_handed", "_law_way", "_law_shelves"]) (b := b_f__law_leaf (csem (n + 1)) (csem n)) (T.fn .f__law_leaf) sc_f__law_leaf rfl (fun cdv A outer s H E hr => ?_)
  unfold b_f__law_leaf
  exact (pssd_cons (psd_asg (pd_var 2) (pgd_tup (n := 3) rfl (pgd_cons (pgd_name 3 sc_f__law_leaf.nd) (pgd_cons (pgd_name 4 sc_f__law_leaf.nd) (pgd_cons (pgd_name 5 sc_f__law_leaf.nd) pgd_nil)))))
    (pssd_cons (psd_asg (pd_call (ih .f__law_drawn) (hr.mono (Nat.le_refl _)) (by rfl) T.mg_f__law_drawn T.kp_f__law_drawn (T.bd .f__law_drawn) (takes_of rfl rfl rfl rfl) (pda_cons (pd_var 0) (pda_cons (pd_var 1) (pda_cons pd_int pda_nil)))) (pgd_name 6 sc_f__law_leaf.nd))
    (pssd_cons (psd_if (ptd_cmp od_lt (pd_var 6) pd_int (nomark _)) (pssd_one (psd_ret (pd_tup (pda_cons pd_str (pda_cons (pd_sub (hu_of hr) (pd_lst (pda_cons pd_int (pda_cons pd_int (pda_cons pd_int (pda_cons pd_int (pda_cons pd_int (pda_cons pd_int pda_nil))))))) (pd_call (ih .f__law_drawn) (hr.mono (Nat.le_refl _)) (by rfl) T.mg_f__law_drawn T.kp_f__law_drawn (T.bd .f__law_drawn) (takes_of rfl rfl rfl rfl) (pda_cons (pd_var 0) (pda_cons (pd_bin od_add (pd_var 1) pd_int) (pda_cons pd_int pda_nil))))) pda_nil))))) pssd_nil)
    (pssd_cons (psd_if (PW.pt (pwd_and (ptd_cmp (od_eq hr.units) (pd_var 6) pd_int (nomark _)) (pwd_and1 (ptd_cmp (od_ne hr.units) (pd_var 3) (pd_tup pda_nil) (nomark _))))) (pssd_one (psd_ret (pd_tup (pda_cons pd_str (pda_cons (pd_sub (hu_of hr) (pd_var 3) (pd_call (ih .f__law_drawn) (hr.mono (Nat.le_refl _)) (by rfl) T.mg_f__law_drawn T.kp_f__law_drawn (T.bd .f__law_drawn) (takes_of rfl rfl rfl rfl) (pda_cons (pd_var 0) (pda_cons (pd_bin od_add (pd_var 1) pd_int) (pda_cons (pd_callB cd_len (by rfl) T.z_len (by rfl) (pda_cons (pd_var 3) pda_nil)) pda_nil))))) pda_nil))))) pssd_nil)
    (pssd_cons (psd_if (PW.pt (pwd_and (ptd_cmp (od_eq hr.units) (pd_var 6) pd_int (nomark _)) (pwd_and1 (ptd_cmp (od_ne hr.units) (pd_var 5) (pd_tup pda_nil) (nomark _))))) (pssd_one (psd_ret (pd_tup (pda_cons pd_str (pda_cons (pd_sub (hu_of hr) (pd_var 5) (pd_call (ih .f__law_drawn) (hr.mono (Nat.le_refl _)) (by rfl) T.mg_f__law_drawn T.kp_f__law_drawn (T.bd .f__law_drawn) (takes_of rfl rfl rfl rfl) (pda_cons (pd_var 0) (pda_cons (pd_bin od_add (pd_var 1) pd_int) (pda_cons (pd_callB cd_len (by rfl) T.z_len (by rfl) (pda_cons (pd_var 5) pda_nil)) pda_nil))))) pda_nil))))) pssd_nil)
    (pssd_cons (psd_if (ptd_cmp (od_eq hr.units) (pd_var 6) pd_int (nomark _)) (pssd_one (psd_ret (pd_tup (pda_cons pd_str pda_nil)))) pssd_nil)
    (pssd_cons (psd_asg (pd_bin od_add (pd_tup (pda_cons pd_str (pda_cons pd_str (pda_cons pd_str (pda_cons pd_str pda_nil))))) (pd_bin od_mul (pd_var 4) pd_int)) (pgd_name 7 sc_f__law_leaf.nd))
    (pssd_one (psd_ret (pd_tup (pda_cons pd_str (pda_cons (pd_sub (hu_of hr) (pd_var 7) (pd_call (ih .f__law_drawn) (hr.mono (Nat.le_refl _)) (by rfl) T.mg_f__law_drawn T.kp_f__law_drawn (T.bd .f__law_drawn) (takes_of rfl rfl rfl rfl) (pda_cons (pd_var 0) (pda_cons (pd_bin od_add (pd_var 1) pd_int) (pda_cons (pd_callB cd_len (by rfl) T.z_len (by rfl) (pda_cons (pd_var 7) pda_nil)) pda_nil))))) pda_nil))))))))))))
theorem sc_f__law_deed : FnScope ["_law_script", "_law_at", "_law_deep", "_law_known", "_law_rules_here", "_law_way", "_law_one", "_law_shelves", "_law_word", "_law_inner", "_law_other"] (pas .f__law_deed) (defScope (stm .f__law_deed)) := ⟨rfl, rfl, rfl, by decide +kernel, rfl, by decide +kernel, by decide +kernel⟩
theorem ok_f__law_deed {n : Nat} (T : Tx K mg fa fdt ca ea) (ih : ∀ i, Ok P w K mg base fa fdt ca ea (n + 1) i) (ih2 : ∀ i, Ok P w K mg base fa fdt ca ea n i) : Ok P w K mg base fa fdt ca ea (n + 2) .f__law_deed := by
  show FnOk P w K mg base (L2.CX P w) (n + 1 + 1) (fa .f__law_deed) (fdt .f__law_deed) (pas .f__law_deed) (spD ⟨K, cA ca, xA ea⟩ 5 (runFn 5 11 (b_f__law_deed (csem (n + 1)) (csem n))))
  refine fn_ok (T := ⟨cA ca, xA ea⟩) (np := 5) (N := ["_law_script", "_law_at", "_law_deep", "_law_known", "_law_rules_here", "_law_way", "_law_one", "_law_shelves", "_law_word", "_law_inner", "_law_other"]) (b := b_f__law_deed (csem (n + 1)) (csem n)) (T.fn .f__law_deed) sc_f__law_deed rfl (fun cdv A outer s H E hr => ?_)
  unfold b_f__law_deed
  exact (pssd_cons (psd_asg (pd_call (ih .f__law_drawn) (hr.mono (Nat.le_refl _)) (by rfl) T.mg_f__law_drawn T.kp_f__law_drawn (T.bd .f__law_drawn) (takes_of rfl rfl rfl rfl) (pda_cons (pd_var 0) (pda_cons (pd_var 1) (pda_cons pd_int pda_nil)))) (pgd_name 5 sc_f__law_deed.nd))
    (pssd_cons (psd_if (PW.pt (pwd_or (ptd_cmp (od_eq hr.units) (pd_var 2) pd_int (nomark _)) (pwd_or1 (ptd_cmp od_lt (pd_var 5) pd_int (nomark _))))) (pssd_one (psd_ret (pd_call (ih .f__law_leaf) (hr.mono (Nat.le_refl _)) (by rfl) T.mg_f__law_leaf T.kp_f__law_leaf (T.bd .f__law_leaf) (takes_of rfl rfl rfl rfl) (pda_cons (pd_var 0) (pda_cons (pd_bin od_add (pd_var 1) pd_int) (pda_cons (pd_var 3) pda_nil)))))) pssd_nil)
    (pssd_cons (psd_if (PW.pt (pwd_and (ptd_cmp od_lt (pd_var 5) pd_int (nomark _)) (pwd_and1 (ptd_cmp (od_ne hr.units) (pd_var 4) (pd_tup pda_nil) (nomark _))))) (pssd_one (psd_ret (pd_call (ih .f__law_call) (hr.mono (Nat.le_refl _)) (by rfl) T.mg_f__law_call T.kp_f__law_call (T.bd .f__law_call) (takes_of rfl rfl rfl rfl) (pda_cons (pd_var 0) (pda_cons (pd_var 1) (pda_cons (pd_var 2) (pda_cons (pd_var 3) (pda_cons (pd_var 4) pda_nil)))))))) pssd_nil)
    (pssd_cons (psd_asg (pd_call (ih .f__law_deed) (hr.mono (Nat.le_refl _)) (by rfl) T.mg_f__law_deed T.kp_f__law_deed (T.bd .f__law_deed) (takes_of rfl rfl rfl rfl) (pda_cons (pd_var 0) (pda_cons (pd_bin od_add (pd_bin od_mul (pd_var 1) pd_int) pd_int) (pda_cons (pd_bin od_sub (pd_var 2) pd_int) (pda_cons (pd_var 3) (pda_cons (pd_var 4) pda_nil)))))) (pgd_name 6 sc_f__law_deed.nd))
    (pssd_cons (psd_if (ptd_cmp od_lt (pd_var 5) pd_int (nomark _)) (pssd_cons (psd_asg (pd_bin od_add (pd_tup (pda_cons pd_str (pda_cons pd_str (pda_cons pd_str (pda_cons pd_str pda_nil))))) (pd_bin od_mul (pd_sub (hu_of hr) (pd_var 3) pd_int) pd_int)) (pgd_name 7 sc_f__law_deed.nd))
    (pssd_one (psd_ret (pd_tup (pda_cons pd_str (pda_cons (pd_sub (hu_of hr) (pd_var 7) (pd_call (ih .f__law_drawn) (hr.mono (Nat.le_refl _)) (by rfl) T.mg_f__law_drawn T.kp_f__law_drawn (T.bd .f__law_drawn) (takes_of rfl rfl rfl rfl) (pda_cons (pd_var 0) (pda_cons (pd_bin od_add (pd_var 1) pd_int) (pda_cons (pd_callB cd_len (by rfl) T.z_len (by rfl) (pda_cons (pd_var 7) pda_nil)) pda_nil))))) (pda_cons (pd_var 6) pda_nil))))))) pssd_nil)
    (pssd_cons (psd_if (ptd_cmp (od_eq hr.units) (pd_var 5) pd_int (nomark _)) (pssd_one (psd_ret (pd_tup (pda_cons pd_str (pda_cons (pd_var 6) pda_nil))))) pssd_nil)
    (pssd_cons (psd_if (ptd_cmp (od_eq hr.units) (pd_var 5) pd_int (nomark _)) (pssd_cons (psd_asg (pd_sub (hu_of hr) (pd_lst (pda_cons pd_str (pda_cons pd_str (pda_cons pd_str pda_nil)))) (pd_call (ih .f__law_drawn) (hr.mono (Nat.le_refl _)) (by rfl) T.mg_f__law_drawn T.kp_f__law_drawn (T.bd .f__law_drawn) (takes_of rfl rfl rfl rfl) (pda_cons (pd_var 0) (pda_cons (pd_bin od_add (pd_var 1) pd_int) (pda_cons pd_int pda_nil))))) (pgd_name 8 sc_f__law_deed.nd))
    (pssd_one (psd_ret (pd_tup (pda_cons pd_str (pda_cons (pd_var 8) (pda_cons (pd_var 6) (pda_cons (pd_call (ih .f__law_deed) (hr.mono (Nat.le_refl _)) (by rfl) T.mg_f__law_deed T.kp_f__law_deed (T.bd .f__law_deed) (takes_of rfl rfl rfl rfl) (pda_cons (pd_var 0) (pda_cons (pd_bin od_add (pd_bin od_mul (pd_var 1) pd_int) pd_int) (pda_cons (pd_bin od_sub (pd_var 2) pd_int) (pda_cons (pd_bin od_add (pd_tup (pda_cons (pd_bin od_add (pd_sub (hu_of hr) (pd_var 3) pd_int) (pd_tup (pda_cons (pd_var 8) pda_nil))) pda_nil)) (pd_sl (pd_var 3) (pod_some pd_int) pod_none)) (pda_cons (pd_var 4) pda_nil)))))) pda_nil)))))))) pssd_nil)
    (pssd_cons (psd_if (ptd_cmp (od_eq hr.units) (pd_var 5) pd_int (nomark _)) (pssd_cons (psd_asg (pd_sub (hu_of hr) (pd_lst (pda_cons pd_str (pda_cons pd_str pda_nil))) (pd_call (ih .f__law_drawn) (hr.mono (Nat.le_refl _)) (by rfl) T.mg_f__law_drawn T.kp_f__law_drawn (T.bd .f__law_drawn) (takes_of rfl rfl rfl rfl) (pda_cons (pd_var 0) (pda_cons (pd_bin od_add (pd_var 1) pd_int) (pda_cons pd_int pda_nil))))) (pgd_name 8 sc_f__law_deed.nd))
    (pssd_cons (psd_asg (pd_tup (pda_cons (pd_sub (hu_of hr) (pd_var 3) pd_int) (pda_cons (pd_bin od_add (pd_sub (hu_of hr) (pd_var 3) pd_int) (pd_tup (pda_cons (pd_var 8) pda_nil))) (pda_cons (pd_sub (hu_of hr) (pd_var 3) pd_int) pda_nil)))) (pgd_name 9 sc_f__law_deed.nd))
    (pssd_one (psd_ret (pd_tup (pda_cons pd_str (pda_cons (pd_var 8) (pda_cons (pd_var 6) (pda_cons (pd_call (ih .f__law_deed) (hr.mono (Nat.le_refl _)) (by rfl) T.mg_f__law_deed T.kp_f__law_deed (T.bd .f__law_deed) (takes_of rfl rfl rfl rfl) (pda_cons (pd_var 0) (pda_cons (pd_bin od_add (pd_bin od_mul (pd_var 1) pd_int) pd_int) (pda_cons (pd_bin od_sub (pd_var 2) pd_int) (pda_cons (pd_var 9) (pda_cons (pd_var 4) pda_nil)))))) pda_nil))))))))) pssd_nil)
    (pssd_cons (psd_asg (pd_call (ih .f__law_deed) (hr.mono (Nat.le_refl _)) (by rfl) T.mg_f__law_deed T.kp_f__law_deed (T.bd .f__law_deed) (takes_of rfl rfl rfl rfl) (pda_cons (pd_var 0) (pda_cons (pd_bin od_add (pd_bin od_mul (pd_var 1) pd_int) pd_int) (pda_cons (pd_bin od_sub (pd_var 2) pd_int) (pda_cons (pd_var 3) (pda_cons (pd_var 4) pda_nil)))))) (pgd_name 10 sc_f__law_deed.nd))
    (pssd_cons (psd_if (ptd_cmp (od_eq hr.units) (pd_var 5) pd_int (nomark _)) (pssd_one (psd_ret (pd_tup (pda_cons pd_str (pda_cons (pd_var 6) (pda_cons (pd_var 10) (pda_cons (pd_call (ih .f__law_deed) (hr.mono (Nat.le_refl _)) (by rfl) T.mg_f__law_deed T.kp_f__law_deed (T.bd .f__law_deed) (takes_of rfl rfl rfl rfl) (pda_cons (pd_var 0) (pda_cons (pd_bin od_add (pd_bin od_mul (pd_var 1) pd_int) pd_int) (pda_cons (pd_bin od_sub (pd_var 2) pd_int) (pda_cons (pd_var 3) (pda_cons (pd_var 4) pda_nil)))))) pda_nil))))))) pssd_nil)
    (pssd_one (psd_ret (pd_bin od_add (pd_sub (hu_of hr) (pd_lst (pda_cons (pd_tup (pda_cons pd_str pda_nil)) (pda_cons (pd_tup (pda_cons pd_str pda_nil)) (pda_cons (pd_tup (pda_cons pd_str pda_nil)) (pda_cons (pd_tup (pda_cons pd_str pda_nil)) (pda_cons (pd_tup (pda_cons pd_str pda_nil)) pda_nil)))))) (pd_bin od_sub (pd_var 5) pd_int)) (pd_tup (pda_cons (pd_var 6) (pda_cons (pd_var 10) pda_nil))))))))))))))))
theorem sc_f__law_call : FnScope ["_law_script", "_law_at", "_law_deep", "_law_known", "_law_rules_here", "_law_number", "_law_size", "_law_parts", "_law_k"] (pas .f__law_call) (defScope (stm .f__law_call)) := ⟨rfl, rfl, rfl, by decide +kernel, rfl, by decide +kernel, by decide +kernel⟩
theorem ok_f__law_call {n : Nat} (T : Tx K mg fa fdt ca ea) (ih : ∀ i, Ok P w K mg base fa fdt ca ea (n + 1) i) (ih2 : ∀ i, Ok P w K mg base fa fdt ca ea n i) : Ok P w K mg base fa fdt ca ea (n + 2) .f__law_call := by
  show FnOk P w K mg base (L2.CX P w) (n + 1 + 1) (fa .f__law_call) (fdt .f__law_call) (pas .f__law_call) (spD ⟨K, cA ca, xA ea⟩ 5 (runFn 5 9 (b_f__law_call (csem (n + 1)) (csem n))))
  refine fn_ok (T := ⟨cA ca, xA ea⟩) (np := 5) (N := ["_law_script", "_law_at", "_law_deep", "_law_known", "_law_rules_here", "_law_number", "_law_size", "_law_parts", "_law_k"]) (b := b_f__law_call (csem (n + 1)) (csem n)) (T.fn .f__law_call) sc_f__law_call rfl (fun cdv A outer s H E hr => ?_)
  unfold b_f__law_call
  exact (pssd_cons (psd_asg (pd_call (ih .f__law_drawn) (hr.mono (Nat.le_refl _)) (by rfl) T.mg_f__law_drawn T.kp_f__law_drawn (T.bd .f__law_drawn) (takes_of rfl rfl rfl rfl) (pda_cons (pd_var 0) (pda_cons (pd_bin od_add (pd_var 1) pd_int) (pda_cons (pd_callB cd_len (by rfl) T.z_len (by rfl) (pda_cons (pd_var 4) pda_nil)) pda_nil)))) (pgd_name 5 sc_f__law_call.nd))
    (pssd_cons (psd_asg (pd_callB cd_len (by rfl) T.z_len (by rfl) (pda_cons (pd_sub (hu_of hr) (pd_sub (hu_of hr) (pd_var 4) (pd_var 5)) pd_int) pda_nil)) (pgd_name 6 sc_f__law_call.nd))
    (pssd_cons (psd_asg (pd_lst pda_nil) (pgd_name 7 sc_f__law_call.nd))
    (pssd_cons (psd_for (passes_of rfl) rfl (pid_range1 (by rfl) T.z_range (pd_bin od_add (pd_var 6) (pd_callB cd_len (by rfl) T.z_len (by rfl) (pda_cons (pd_sub (hu_of hr) (pd_sub (hu_of hr) (pd_var 4) (pd_var 5)) pd_int) pda_nil)))) (pgd_name 8 sc_f__law_call.nd) (pssd_one (psd_expr (pd_append (pd_var 7) (pd_call (ih .f__law_deed) (hr.mono (Nat.le_refl _)) (by rfl) T.mg_f__law_deed T.kp_f__law_deed (T.bd .f__law_deed) (takes_of rfl rfl rfl rfl) (pda_cons (pd_var 0) (pda_cons (pd_bin od_add (pd_bin od_add (pd_bin od_mul (pd_var 1) pd_int) pd_int) (pd_bin od_mul pd_int (pd_var 8))) (pda_cons (pd_bin od_sub (pd_var 2) pd_int) (pda_cons (pd_var 3) (pda_cons (pd_var 4) pda_nil))))))))))
    (pssd_one (psd_ret (pd_tup (pda_cons pd_str (pda_cons (pd_var 5) (pda_cons (pd_callTy cd_tuple (by rfl) T.z_tuple (by rfl) (pda_cons (pd_sl (pd_var 7) pod_none (pod_some (pd_var 6))) pda_nil)) (pda_cons (pd_callTy cd_tuple (by rfl) T.z_tuple (by rfl) (pda_cons (pd_sl (pd_var 7) (pod_some (pd_var 6)) pod_none) pda_nil)) pda_nil)))))))))))
theorem sc_f__law_rules : FnScope ["_law_script", "_law_at", "_law_rules_here", "_law_k", "_law_names", "_law_handed", "_law_body"] (pas .f__law_rules) (defScope (stm .f__law_rules)) := ⟨rfl, rfl, rfl, by decide +kernel, rfl, by decide +kernel, by decide +kernel⟩
theorem ok_f__law_rules {n : Nat} (T : Tx K mg fa fdt ca ea) (ih : ∀ i, Ok P w K mg base fa fdt ca ea (n + 1) i) (ih2 : ∀ i, Ok P w K mg base fa fdt ca ea n i) : Ok P w K mg base fa fdt ca ea (n + 2) .f__law_rules := by
  show FnOk P w K mg base (L2.CX P w) (n + 1 + 1) (fa .f__law_rules) (fdt .f__law_rules) (pas .f__law_rules) (spD ⟨K, cA ca, xA ea⟩ 2 (runFn 2 7 (b_f__law_rules (csem (n + 1)) (csem n))))
  refine fn_ok (T := ⟨cA ca, xA ea⟩) (np := 2) (N := ["_law_script", "_law_at", "_law_rules_here", "_law_k", "_law_names", "_law_handed", "_law_body"]) (b := b_f__law_rules (csem (n + 1)) (csem n)) (T.fn .f__law_rules) sc_f__law_rules rfl (fun cdv A outer s H E hr => ?_)
  unfold b_f__law_rules
  exact (pssd_cons (psd_asg (pd_tup pda_nil) (pgd_name 2 sc_f__law_rules.nd))
    (pssd_cons (psd_for (passes_of rfl) rfl (pid_range1 (by rfl) T.z_range (pd_call (ih .f__law_drawn) (hr.mono (Nat.le_refl _)) (by rfl) T.mg_f__law_drawn T.kp_f__law_drawn (T.bd .f__law_drawn) (takes_of rfl rfl rfl rfl) (pda_cons (pd_var 0) (pda_cons (pd_var 1) (pda_cons pd_int pda_nil))))) (pgd_name 3 sc_f__law_rules.nd) (pssd_cons (psd_asg (pd_sub (hu_of hr) (pd_lst (pda_cons (pd_tup pda_nil) (pda_cons (pd_tup (pda_cons pd_str pda_nil)) (pda_cons (pd_tup (pda_cons pd_str (pda_cons pd_str pda_nil))) pda_nil)))) (pd_call (ih .f__law_drawn) (hr.mono (Nat.le_refl _)) (by rfl) T.mg_f__law_drawn T.kp_f__law_drawn (T.bd .f__law_drawn) (takes_of rfl rfl rfl rfl) (pda_cons (pd_var 0) (pda_cons (pd_bin od_add (pd_bin od_add (pd_var 1) pd_int) (pd_bin od_mul pd_int (pd_var 3))) (pda_cons pd_int pda_nil))))) (pgd_name 4 sc_f__law_rules.nd))
    (pssd_cons (psd_asg (pd_sub (hu_of hr) (pd_lst (pda_cons (pd_tup pda_nil) (pda_cons (pd_tup (pda_cons pd_str pda_nil)) (pda_cons (pd_tup (pda_cons pd_str (pda_cons pd_str pda_nil))) pda_nil)))) (pd_call (ih .f__law_drawn) (hr.mono (Nat.le_refl _)) (by rfl) T.mg_f__law_drawn T.kp_f__law_drawn (T.bd .f__law_drawn) (takes_of rfl rfl rfl rfl) (pda_cons (pd_var 0) (pda_cons (pd_bin od_add (pd_bin od_add (pd_var 1) pd_int) (pd_bin od_mul pd_int (pd_var 3))) (pda_cons pd_int pda_nil))))) (pgd_name 5 sc_f__law_rules.nd))
    (pssd_cons (psd_asg (pd_call (ih .f__law_deed) (hr.mono (Nat.le_refl _)) (by rfl) T.mg_f__law_deed T.kp_f__law_deed (T.bd .f__law_deed) (takes_of rfl rfl rfl rfl) (pda_cons (pd_var 0) (pda_cons (pd_bin od_add (pd_bin od_add (pd_var 1) pd_int) (pd_bin od_mul pd_int (pd_var 3))) (pda_cons pd_int (pda_cons (pd_tup (pda_cons (pd_var 4) (pda_cons (pd_tup pda_nil) (pda_cons (pd_var 5) pda_nil)))) (pda_cons (pd_var 2) pda_nil)))))) (pgd_name 6 sc_f__law_rules.nd))
    (pssd_one (psd_asg (pd_bin od_add (pd_var 2) (pd_tup (pda_cons (pd_tup (pda_cons (pd_var 4) (pda_cons (pd_var 5) (pda_cons (pd_var 6) pda_nil)))) pda_nil))) (pgd_name 2 sc_f__law_rules.nd)))))))
    (pssd_one (psd_ret (pd_var 2)))))
theorem sc_f__law_store : FnScope ["_law_script", "_law_at", "_law_k"] (pas .f__law_store) (defScope (stm .f__law_store)) := ⟨rfl, rfl, rfl, by decide +kernel, rfl, by decide +kernel, by decide +kernel⟩
theorem ok_f__law_store {n : Nat} (T : Tx K mg fa fdt ca ea) (ih : ∀ i, Ok P w K mg base fa fdt ca ea (n + 1) i) (ih2 : ∀ i, Ok P w K mg base fa fdt ca ea n i) : Ok P w K mg base fa fdt ca ea (n + 2) .f__law_store := by
  show FnOk P w K mg base (L2.CX P w) (n + 1 + 1) (fa .f__law_store) (fdt .f__law_store) (pas .f__law_store) (spD ⟨K, cA ca, xA ea⟩ 2 (runFn 2 3 (b_f__law_store (csem (n + 1)) (csem n))))
  refine fn_ok (T := ⟨cA ca, xA ea⟩) (np := 2) (N := ["_law_script", "_law_at", "_law_k"]) (b := b_f__law_store (csem (n + 1)) (csem n)) (T.fn .f__law_store) sc_f__law_store rfl (fun cdv A outer s H E hr => ?_)
  unfold b_f__law_store
  exact (pssd_one (psd_ret (pd_callTy cd_tuple (by rfl) T.z_tuple (by rfl) (pda_cons (pd_lc (own := [("_law_k", 2)]) rfl (by exact sc_f__law_store.nd) (by exact (pid_range1 (by rfl) T.z_range pd_int)) (by exact (blkOk_by (own := [("_law_k", 2)]) (N := ["_law_script", "_law_at", "_law_k"]) (sc := defScope (stm .f__law_store)) (by decide +kernel))) (fun _ _ _ _ _ => by exact (pgd_name 2 sc_f__law_store.nd)) (fun _ _ _ _ _ => by exact ptsd_nil) (fun _ _ _ _ _ => by exact (pd_call (ih .f__law_drawn) (hr.mono (Nat.le_refl _)) (by rfl) T.mg_f__law_drawn T.kp_f__law_drawn (T.bd .f__law_drawn) takes0 (pda_cons (pd_var 0) (pda_cons (pd_bin od_add (pd_var 1) (pd_var 2)) (pda_cons pd_int pda_nil)))))) pda_nil))))
theorem sc_f__law_asked : FnScope ["_law_script", "_law_at", "_law_k"] (pas .f__law_asked) (defScope (stm .f__law_asked)) := ⟨rfl, rfl, rfl, by decide +kernel, rfl, by decide +kernel, by decide +kernel⟩
theorem ok_f__law_asked {n : Nat} (T : Tx K mg fa fdt ca ea) (ih : ∀ i, Ok P w K mg base fa fdt ca ea (n + 1) i) (ih2 : ∀ i, Ok P w K mg base fa fdt ca ea n i) : Ok P w K mg base fa fdt ca ea (n + 2) .f__law_asked := by
  show FnOk P w K mg base (L2.CX P w) (n + 1 + 1) (fa .f__law_asked) (fdt .f__law_asked) (pas .f__law_asked) (spD ⟨K, cA ca, xA ea⟩ 2 (runFn 2 3 (b_f__law_asked (csem (n + 1)) (csem n))))
  refine fn_ok (T := ⟨cA ca, xA ea⟩) (np := 2) (N := ["_law_script", "_law_at", "_law_k"]) (b := b_f__law_asked (csem (n + 1)) (csem n)) (T.fn .f__law_asked) sc_f__law_asked rfl (fun cdv A outer s H E hr => ?_)
  unfold b_f__law_asked
  exact (pssd_one (psd_ret (pd_lc (own := [("_law_k", 2)]) rfl (by exact sc_f__law_asked.nd) (by exact (pid_range1 (by rfl) T.z_range (pd_call (ih .f__law_drawn) (hr.mono (Nat.le_refl _)) (by rfl) T.mg_f__law_drawn T.kp_f__law_drawn (T.bd .f__law_drawn) (takes_of rfl rfl rfl rfl) (pda_cons (pd_var 0) (pda_cons (pd_var 1) (pda_cons pd_int pda_nil)))))) (by exact (blkOk_by (own := [("_law_k", 2)]) (N := ["_law_script", "_law_at", "_law_k"]) (sc := defScope (stm .f__law_asked)) (by decide +kernel))) (fun _ _ _ _ _ => by exact (pgd_name 2 sc_f__law_asked.nd)) (fun _ _ _ _ _ => by exact ptsd_nil) (fun _ _ _ _ _ => by exact (pd_call (ih .f__law_drawn) (hr.mono (Nat.le_refl _)) (by rfl) T.mg_f__law_drawn T.kp_f__law_drawn (T.bd .f__law_drawn) takes0 (pda_cons (pd_var 0) (pda_cons (pd_bin od_add (pd_bin od_add (pd_var 1) pd_int) (pd_var 2)) (pda_cons pd_int pda_nil))))))))
theorem sc_f__law_quiet : FnScope ["_law_script", "_law_at", "_law_some", "_law_one", "_law_other", "_law_ways"] (pas .f__law_quiet) (defScope (stm .f__law_quiet)) := ⟨rfl, rfl, rfl, by decide +kernel, rfl, by decide +kernel, by decide +kernel⟩
theorem ok_f__law_quiet {n : Nat} (T : Tx K mg fa fdt ca ea) (ih : ∀ i, Ok P w K mg base fa fdt ca ea (n + 1) i) (ih2 : ∀ i, Ok P w K mg base fa fdt ca ea n i) : Ok P w K mg base fa fdt ca ea (n + 2) .f__law_quiet := by
  show FnOk P w K mg base (L2.CX P w) (n + 1 + 1) (fa .f__law_quiet) (fdt .f__law_quiet) (pas .f__law_quiet) (spD ⟨K, cA ca, xA ea⟩ 2 (runFn 2 6 (b_f__law_quiet (csem (n + 1)) (csem n))))
  refine fn_ok (T := ⟨cA ca, xA ea⟩) (np := 2) (N := ["_law_script", "_law_at", "_law_some", "_law_one", "_law_other", "_law_ways"]) (b := b_f__law_quiet (csem (n + 1)) (csem n)) (T.fn .f__law_quiet) sc_f__law_quiet rfl (fun cdv A outer s H E hr => ?_)
  unfold b_f__law_quiet
  exact (pssd_cons (psd_asg (pd_lst (pda_cons (pd_tup (pda_cons pd_str (pda_cons (pd_sub (hu_of hr) pd_str (pd_call (ih .f__law_drawn) (hr.mono (Nat.le_refl _)) (by rfl) T.mg_f__law_drawn T.kp_f__law_drawn (T.bd .f__law_drawn) (takes_of rfl rfl rfl rfl) (pda_cons (pd_var 0) (pda_cons (pd_bin od_add (pd_var 1) pd_int) (pda_cons pd_int pda_nil))))) pda_nil))) (pda_cons (pd_tup (pda_cons pd_str (pda_cons (pd_call (ih .f__law_drawn) (hr.mono (Nat.le_refl _)) (by rfl) T.mg_f__law_drawn T.kp_f__law_drawn (T.bd .f__law_drawn) (takes_of rfl rfl rfl rfl) (pda_cons (pd_var 0) (pda_cons (pd_bin od_add (pd_var 1) pd_int) (pda_cons pd_int pda_nil)))) pda_nil))) pda_nil))) (pgd_name 2 sc_f__law_quiet.nd))
    (pssd_cons (psd_asg (pd_sub (hu_of hr) (pd_var 2) (pd_call (ih .f__law_drawn) (hr.mono (Nat.le_refl _)) (by rfl) T.mg_f__law_drawn T.kp_f__law_drawn (T.bd .f__law_drawn) (takes_of rfl rfl rfl rfl) (pda_cons (pd_var 0) (pda_cons (pd_bin od_add (pd_var 1) pd_int) (pda_cons pd_int pda_nil))))) (pgd_name 3 sc_f__law_quiet.nd))
    (pssd_cons (psd_asg (pd_sub (hu_of hr) (pd_var 2) (pd_call (ih .f__law_drawn) (hr.mono (Nat.le_refl _)) (by rfl) T.mg_f__law_drawn T.kp_f__law_drawn (T.bd .f__law_drawn) (takes_of rfl rfl rfl rfl) (pda_cons (pd_var 0) (pda_cons (pd_bin od_add (pd_var 1) pd_int) (pda_cons pd_int pda_nil))))) (pgd_name 4 sc_f__law_quiet.nd))
    (pssd_cons (psd_asg (pd_lst (pda_cons (pd_var 3) (pda_cons (pd_tup (pda_cons pd_str (pda_cons (pd_var 3) (pda_cons (pd_var 4) pda_nil)))) (pda_cons (pd_tup (pda_cons pd_str (pda_cons pd_str (pda_cons (pd_var 3) (pda_cons (pd_tup (pda_cons pd_str (pda_cons pd_str (pda_cons (pd_tup (pda_cons pd_str (pda_cons (pd_tup (pda_cons pd_str (pda_cons pd_str pda_nil))) (pda_cons (pd_var 4) pda_nil)))) pda_nil)))) pda_nil))))) pda_nil)))) (pgd_name 5 sc_f__law_quiet.nd))
    (pssd_cons (psd_asg (pd_bin od_add (pd_var 5) (pd_lst (pda_cons (pd_tup (pda_cons pd_str (pda_cons pd_str (pda_cons (pd_var 3) (pda_cons (pd_tup (pda_cons pd_str (pda_cons (pd_tup (pda_cons pd_str (pda_cons pd_str pda_nil))) (pda_cons (pd_tup (pda_cons pd_str (pda_cons pd_str pda_nil))) pda_nil)))) pda_nil))))) (pda_cons (pd_tup (pda_cons pd_str (pda_cons (pd_var 3) (pda_cons (pd_var 4) (pda_cons (pd_tup (pda_cons pd_str (pda_cons pd_int pda_nil))) pda_nil))))) pda_nil)))) (pgd_name 5 sc_f__law_quiet.nd))
    (pssd_one (psd_ret (pd_sub (hu_of hr) (pd_var 5) (pd_call (ih .f__law_drawn) (hr.mono (Nat.le_refl _)) (by rfl) T.mg_f__law_drawn T.kp_f__law_drawn (T.bd .f__law_drawn) (takes_of rfl rfl rfl rfl) (pda_cons (pd_var 0) (pda_cons (pd_var 1) (pda_cons pd_int pda_nil))))))))))))
theorem sc_f__law_weight : FnScope ["_law_rules_here", "_law_deed_here", "_law_handed", "_law_word", "_law_there", "_law_parts", "_law_inner", "_law_one", "_law_part"] (pas .f__law_weight) (defScope (stm .f__law_weight)) := ⟨rfl, rfl, rfl, by decide +kernel, rfl, by decide +kernel, by decide +kernel⟩
theorem ok_f__law_weight {n : Nat} (T : Tx K mg fa fdt ca ea) (ih : ∀ i, Ok P w K mg base fa fdt ca ea (n + 1) i) (ih2 : ∀ i, Ok P w K mg base fa fdt ca ea n i) : Ok P w K mg base fa fdt ca ea (n + 2) .f__law_weight := by
  show FnOk P w K mg base (L2.CX P w) (n + 1 + 1) (fa .f__law_weight) (fdt .f__law_weight) (pas .f__law_weight) (spD ⟨K, cA ca, xA ea⟩ 3 (runFn 3 9 (b_f__law_weight (csem (n + 1)) (csem n))))
  refine fn_ok (T := ⟨cA ca, xA ea⟩) (np := 3) (N := ["_law_rules_here", "_law_deed_here", "_law_handed", "_law_word", "_law_there", "_law_parts", "_law_inner", "_law_one", "_law_part"]) (b := b_f__law_weight (csem (n + 1)) (csem n)) (T.fn .f__law_weight) sc_f__law_weight rfl (fun cdv A outer s H E hr => ?_)
  unfold b_f__law_weight
  exact (pssd_cons (psd_asg (pd_sub (hu_of hr) (pd_var 1) pd_int) (pgd_name 3 sc_f__law_weight.nd))
    (pssd_cons (psd_if (ptd_cmp (od_in hr.u65) (pd_var 3) (pd_tup (pda_cons pd_str (pda_cons pd_str (pda_cons pd_str (pda_cons pd_str pda_nil))))) (by rfl)) (pssd_one (psd_ret pd_int)) pssd_nil)
    (pssd_cons (psd_if (ptd_cmp (od_eq hr.units) (pd_var 3) pd_str (nomark _)) (pssd_one (psd_ret (pd_get2 (hu_of hr) (pd_var 2) (pd_sub (hu_of hr) (pd_var 1) pd_int) pd_int))) pssd_nil)
    (pssd_cons (psd_if (ptd_cmp (od_eq hr.units) (pd_var 3) pd_str (nomark _)) (pssd_cons (psd_asg (pd_callTy (cd_dict rfl) (by rfl) T.z_dict (by rfl) (pda_cons (pd_lc (own := [("_law_one", 7), ("_law_part", 8)]) rfl (by exact sc_f__law_weight.nd) (by exact (pid_zip (by rfl) T.z_zip (pd_sub (hu_of hr) (pd_sub (hu_of hr) (pd_var 0) (pd_sub (hu_of hr) (pd_var 1) pd_int)) pd_int) (pd_sub (hu_of hr) (pd_var 1) pd_int))) (by exact (blkOk_by (own := [("_law_one", 7), ("_law_part", 8)]) (N := ["_law_rules_here", "_law_deed_here", "_law_handed", "_law_word", "_law_there", "_law_parts", "_law_inner", "_law_one", "_law_part"]) (sc := defScope (stm .f__law_weight)) (by decide +kernel))) (fun _ _ _ _ _ => by exact (pgd_tup (n := 2) rfl (pgd_cons (pgd_name 7 sc_f__law_weight.nd) (pgd_cons (pgd_name 8 sc_f__law_weight.nd) pgd_nil)))) (fun _ _ _ _ _ => by exact ptsd_nil) (fun _ _ _ _ _ => by exact (pd_tup (pda_cons (pd_var 7) (pda_cons (pd_call (ih .f__law_weight) (hr.mono (Nat.le_refl _)) (by rfl) T.mg_f__law_weight T.kp_f__law_weight (T.bd .f__law_weight) takes0 (pda_cons (pd_var 0) (pda_cons (pd_var 8) (pda_cons (pd_var 2) pda_nil)))) pda_nil))))) pda_nil)) (pgd_name 4 sc_f__law_weight.nd))
    (pssd_cons (psd_asg (pd_callB (cd_sum rfl) (by rfl) T.z_sum (by rfl) (pda_cons (pd_lc (own := [("_law_part", 8)]) rfl (by exact sc_f__law_weight.nd) (by exact (pid_any (pd_sub (hu_of hr) (pd_var 1) pd_int))) (by exact (blkOk_by (own := [("_law_part", 8)]) (N := ["_law_rules_here", "_law_deed_here", "_law_handed", "_law_word", "_law_there", "_law_parts", "_law_inner", "_law_one", "_law_part"]) (sc := defScope (stm .f__law_weight)) (by decide +kernel))) (fun _ _ _ _ _ => by exact (pgd_name 8 sc_f__law_weight.nd)) (fun _ _ _ _ _ => by exact ptsd_nil) (fun _ _ _ _ _ => by exact (pd_call (ih .f__law_weight) (hr.mono (Nat.le_refl _)) (by rfl) T.mg_f__law_weight T.kp_f__law_weight (T.bd .f__law_weight) takes0 (pda_cons (pd_var 0) (pda_cons (pd_var 8) (pda_cons (pd_var 2) pda_nil)))))) pda_nil)) (pgd_name 5 sc_f__law_weight.nd))
    (pssd_one (psd_ret (pd_bin od_add (pd_bin od_add pd_int (pd_var 5)) (pd_call (ih .f__law_weight) (hr.mono (Nat.le_refl _)) (by rfl) T.mg_f__law_weight T.kp_f__law_weight (T.bd .f__law_weight) (takes_of rfl rfl rfl rfl) (pda_cons (pd_var 0) (pda_cons (pd_sub (hu_of hr) (pd_sub (hu_of hr) (pd_var 0) (pd_sub (hu_of hr) (pd_var 1) pd_int)) pd_int) (pda_cons (pd_var 4) pda_nil))))))))) pssd_nil)
    (pssd_cons (psd_setLc 6 (own := [("_law_part", 8)]) rfl (by exact sc_f__law_weight.nd) (by exact (pid_any (pd_sl (pd_var 1) (pod_some pd_int) pod_none))) (by exact (blkOk_by (own := [("_law_part", 8)]) (N := ["_law_rules_here", "_law_deed_here", "_law_handed", "_law_word", "_law_there", "_law_parts", "_law_inner", "_law_one", "_law_part"]) (sc := defScope (stm .f__law_weight)) (by decide +kernel))) (fun _ _ _ _ _ => by exact (pgd_name 8 sc_f__law_weight.nd)) (fun _ _ _ _ _ => by exact (ptsd_one (ptd_val (pd_isi (by rfl) T.z_isinstance (by rfl) T.z_tuple (by rfl) (by rfl) (pd_var 8))))) (fun _ _ _ _ _ => by exact (pd_call (ih .f__law_weight) (hr.mono (Nat.le_refl _)) (by rfl) T.mg_f__law_weight T.kp_f__law_weight (T.bd .f__law_weight) takes0 (pda_cons (pd_var 0) (pda_cons (pd_var 8) (pda_cons (pd_var 2) pda_nil))))) (by exact sw_true rfl rfl rfl (by decide +kernel)))
    (pssd_cons (psd_if (ptd_cmp (od_eq hr.units) (pd_var 3) pd_str (nomark _)) (pssd_one (psd_ret (pd_bin od_add (pd_bin od_add pd_int (pd_sub (hu_of hr) (pd_var 6) pd_int)) (pd_bin od_mul pd_int (pd_sub (hu_of hr) (pd_var 6) pd_int))))) pssd_nil)
    (pssd_one (psd_ret (pd_bin od_add pd_int (pd_callB (cd_sum rfl) (by rfl) T.z_sum (by rfl) (pda_cons (pd_var 6) pda_nil)))))))))))
theorem sc_f__law_light : FnScope ["_law_script", "_law_at", "_law_deep", "_law_rules_here", "_law_deed_here"] (pas .f__law_light) (defScope (stm .f__law_light)) := ⟨rfl, rfl, rfl, by decide +kernel, rfl, by decide +kernel, by decide +kernel⟩
theorem ok_f__law_light {n : Nat} (T : Tx K mg fa fdt ca ea) (ih : ∀ i, Ok P w K mg base fa fdt ca ea (n + 1) i) (ih2 : ∀ i, Ok P w K mg base fa fdt ca ea n i) : Ok P w K mg base fa fdt ca ea (n + 2) .f__law_light := by
  show FnOk P w K mg base (L2.CX P w) (n + 1 + 1) (fa .f__law_light) (fdt .f__law_light) (pas .f__law_light) (spD ⟨K, cA ca, xA ea⟩ 4 (runFn 4 5 (b_f__law_light (csem (n + 1)) (csem n))))
  refine fn_ok (T := ⟨cA ca, xA ea⟩) (np := 4) (N := ["_law_script", "_law_at", "_law_deep", "_law_rules_here", "_law_deed_here"]) (b := b_f__law_light (csem (n + 1)) (csem n)) (T.fn .f__law_light) sc_f__law_light rfl (fun cdv A outer s H E hr => ?_)
  unfold b_f__law_light
  exact (pssd_cons (psd_asg (pd_call (ih .f__law_deed) (hr.mono (Nat.le_refl _)) (by rfl) T.mg_f__law_deed T.kp_f__law_deed (T.bd .f__law_deed) (takes_of rfl rfl rfl rfl) (pda_cons (pd_var 0) (pda_cons (pd_var 1) (pda_cons (pd_var 2) (pda_cons (pd_tup (pda_cons (pd_tup pda_nil) (pda_cons (pd_tup pda_nil) (pda_cons (pd_tup pda_nil) pda_nil)))) (pda_cons (pd_var 3) pda_nil)))))) (pgd_name 4 sc_f__law_light.nd))
    (pssd_cons (psd_if (ptd_cmp od_gt (pd_call (ih .f__law_weight) (hr.mono (Nat.le_refl _)) (by rfl) T.mg_f__law_weight T.kp_f__law_weight (T.bd .f__law_weight) (takes_of rfl rfl rfl rfl) (pda_cons (pd_var 3) (pda_cons (pd_var 4) (pda_cons pd_dnew pda_nil)))) pd_int (nomark _)) (pssd_one (psd_ret (pd_tup (pda_cons pd_str (pda_cons (pd_sub (hu_of hr) pd_str (pd_call (ih .f__law_drawn) (hr.mono (Nat.le_refl _)) (by rfl) T.mg_f__law_drawn T.kp_f__law_drawn (T.bd .f__law_drawn) (takes_of rfl rfl rfl rfl) (pda_cons (pd_var 0) (pda_cons (pd_var 1) (pda_cons pd_int pda_nil))))) pda_nil))))) pssd_nil)
    (pssd_one (psd_ret (pd_var 4)))))
theorem sc_f_law : FnScope ["_law_script", "_law_rules_here", "_law_one", "_law_two", "_law_three", "_law_store_here", "_law_asked_here", "_law_worths", "_law_whole", "_law_mine", "_law_yours", "_law_least", "_law_told", "_law_any_deed", "_law_k", "_law_deed_here", "_law_worth"] (pas .f_law) (defScope (stm .f_law)) := ⟨rfl, rfl, rfl, by decide +kernel, rfl, by decide +kernel, by decide +kernel⟩
theorem ok_f_law {n : Nat} (T : Tx K mg fa fdt ca ea) (ih : ∀ i, Ok P w K mg base fa fdt ca ea (n + 1) i) (ih2 : ∀ i, Ok P w K mg base fa fdt ca ea n i) : Ok P w K mg base fa fdt ca ea (n + 2) .f_law := by
  show FnOk P w K mg base (L2.CX P w) (n + 1 + 1) (fa .f_law) (fdt .f_law) (pas .f_law) (spD ⟨K, cA ca, xA ea⟩ 1 (runFn 1 17 (b_f_law (csem (n + 1)) (csem n) (lsem (n + 1)) (lsem n))))
  refine fn_ok (T := ⟨cA ca, xA ea⟩) (np := 1) (N := ["_law_script", "_law_rules_here", "_law_one", "_law_two", "_law_three", "_law_store_here", "_law_asked_here", "_law_worths", "_law_whole", "_law_mine", "_law_yours", "_law_least", "_law_told", "_law_any_deed", "_law_k", "_law_deed_here", "_law_worth"]) (b := b_f_law (csem (n + 1)) (csem n) (lsem (n + 1)) (lsem n)) (T.fn .f_law) sc_f_law rfl (fun cdv A outer s H E hr => ?_)
  unfold b_f_law
  exact (pssd_cons (psd_asg (pd_call (ih .f__law_rules) (hr.mono (Nat.le_refl _)) (by rfl) T.mg_f__law_rules T.kp_f__law_rules (T.bd .f__law_rules) (takes_of rfl rfl rfl rfl) (pda_cons (pd_var 0) (pda_cons pd_int pda_nil))) (pgd_name 1 sc_f_law.nd))
    (pssd_cons (psd_asg (pd_lc (own := [("_law_k", 14)]) rfl (by exact sc_f_law.nd) (by exact (pid_range1 (by rfl) T.z_range pd_int)) (by exact (blkOk_by (own := [("_law_k", 14)]) (N := ["_law_script", "_law_rules_here", "_law_one", "_law_two", "_law_three", "_law_store_here", "_law_asked_here", "_law_worths", "_law_whole", "_law_mine", "_law_yours", "_law_least", "_law_told", "_law_any_deed", "_law_k", "_law_deed_here", "_law_worth"]) (sc := defScope (stm .f_law)) (by decide +kernel))) (fun _ _ _ _ _ => by exact (pgd_name 14 sc_f_law.nd)) (fun _ _ _ _ _ => by exact ptsd_nil) (fun _ _ _ _ _ => by exact (pd_call (ih .f__law_quiet) (hr.mono (Nat.le_refl _)) (by rfl) T.mg_f__law_quiet T.kp_f__law_quiet (T.bd .f__law_quiet) takes0 (pda_cons (pd_var 0) (pda_cons (pd_bin od_add pd_int (pd_bin od_mul pd_int (pd_var 14))) pda_nil))))) (pgd_lst (n := 3) rfl (pgd_cons (pgd_name 2 sc_f_law.nd) (pgd_cons (pgd_name 3 sc_f_law.nd) (pgd_cons (pgd_name 4 sc_f_law.nd) pgd_nil)))))
    (pssd_cons (psd_asg (pd_call (ih .f__law_store) (hr.mono (Nat.le_refl _)) (by rfl) T.mg_f__law_store T.kp_f__law_store (T.bd .f__law_store) (takes_of rfl rfl rfl rfl) (pda_cons (pd_var 0) (pda_cons pd_int pda_nil))) (pgd_name 5 sc_f_law.nd))
    (pssd_cons (psd_asg (pd_call (ih .f__law_asked) (hr.mono (Nat.le_refl _)) (by rfl) T.mg_f__law_asked T.kp_f__law_asked (T.bd .f__law_asked) (takes_of rfl rfl rfl rfl) (pda_cons (pd_var 0) (pda_cons pd_int pda_nil))) (pgd_name 6 sc_f_law.nd))
    (pssd_cons (psd_setLc 7 (own := [("_law_deed_here", 15)]) rfl (by exact sc_f_law.nd) (by exact (pid_any (pd_tup (pda_cons (pd_var 2) (pda_cons (pd_var 3) (pda_cons (pd_var 4) pda_nil)))))) (by exact (blkOk_by (own := [("_law_deed_here", 15)]) (N := ["_law_script", "_law_rules_here", "_law_one", "_law_two", "_law_three", "_law_store_here", "_law_asked_here", "_law_worths", "_law_whole", "_law_mine", "_law_yours", "_law_least", "_law_told", "_law_any_deed", "_law_k", "_law_deed_here", "_law_worth"]) (sc := defScope (stm .f_law)) (by decide +kernel))) (fun _ _ _ _ _ => by exact (pgd_name 15 sc_f_law.nd)) (fun _ _ _ _ _ => by exact ptsd_nil) (fun _ _ _ _ _ => by exact (pd_sub (hu_of hr) (pd_call (ih .f_run) (hr.mono (Nat.le_refl _)) (by rfl) T.mg_f_run T.kp_f_run (T.bd .f_run) takes0 (pda_cons (pd_var 1) (pda_cons (pd_var 15) (pda_cons (pd_var 5) (pda_cons (pd_var 6) pda_nil))))) pd_int)) (by exact sw_true rfl rfl rfl (by decide +kernel)))
    (pssd_cons (psd_if (ptd_cmp (od_ne hr.units) (pd_lc (own := [("_law_worth", 16)]) rfl (by exact sc_f_law.nd) (by exact (pid_any (pd_var 7))) (by exact (blkOk_by (own := [("_law_worth", 16)]) (N := ["_law_script", "_law_rules_here", "_law_one", "_law_two", "_law_three", "_law_store_here", "_law_asked_here", "_law_worths", "_law_whole", "_law_mine", "_law_yours", "_law_least", "_law_told", "_law_any_deed", "_law_k", "_law_deed_here", "_law_worth"]) (sc := defScope (stm .f_law)) (by decide +kernel))) (fun _ _ _ _ _ => by exact (pgd_name 16 sc_f_law.nd)) (fun _ _ _ _ _ => by exact (ptsd_one (ptd_not (ptd_chain od_le od_le pd_int (pd_var 16) pd_int)))) (fun _ _ _ _ _ => by exact (pd_var 16))) (pd_lst pda_nil) (nomark _)) (pssd_one (psd_ret pd_bl)) pssd_nil)
    (pssd_cons (psd_asg (pd_call (ih .f_run) (hr.mono (Nat.le_refl _)) (by rfl) T.mg_f_run T.kp_f_run (T.bd .f_run) (takes_of rfl rfl rfl rfl) (pda_cons (pd_var 1) (pda_cons (pd_tup (pda_cons pd_str (pda_cons (pd_var 2) (pda_cons (pd_tup (pda_cons pd_str (pda_cons (pd_var 3) (pda_cons (pd_var 4) pda_nil)))) pda_nil)))) (pda_cons (pd_var 5) (pda_cons (pd_var 6) pda_nil))))) (pgd_name 8 sc_f_law.nd))
    (pssd_cons (psd_if (ptd_cmp (od_ne hr.units) (pd_var 8) (pd_tup (pda_cons (pd_bin od_mod (pd_callB (cd_sum rfl) (by rfl) T.z_sum (by rfl) (pda_cons (pd_var 7) pda_nil)) pd_int) (pda_cons (pd_var 5) (pda_cons (pd_lst pda_nil) (pda_cons pd_int pda_nil))))) (nomark _)) (pssd_one (psd_ret pd_bl)) pssd_nil)
    (pssd_cons (psd_if (ptd_cmp (od_ne hr.units) (pd_call (ih .f_run) (hr.mono (Nat.le_refl _)) (by rfl) T.mg_f_run T.kp_f_run (T.bd .f_run) (takes_of rfl rfl rfl rfl) (pda_cons (pd_var 1) (pda_cons (pd_tup (pda_cons pd_str (pda_cons (pd_tup (pda_cons pd_str (pda_cons (pd_var 4) (pda_cons (pd_var 2) pda_nil)))) (pda_cons (pd_var 3) pda_nil)))) (pda_cons (pd_var 5) (pda_cons (pd_var 6) pda_nil))))) (pd_var 8) (nomark _)) (pssd_one (psd_ret pd_bl)) pssd_nil)
    (pssd_cons (psd_if (ptd_cmp (od_ne hr.units) (pd_call (ih .f_run) (hr.mono (Nat.le_refl _)) (by rfl) T.mg_f_run T.kp_f_run (T.bd .f_run) (takes_of rfl rfl rfl rfl) (pda_cons (pd_var 1) (pda_cons (pd_tup (pda_cons pd_str (pda_cons (pd_var 2) (pda_cons (pd_tup (pda_cons pd_str (pda_cons pd_int pda_nil))) pda_nil)))) (pda_cons (pd_var 5) (pda_cons (pd_var 6) pda_nil))))) (pd_call (ih .f_run) (hr.mono (Nat.le_refl _)) (by rfl) T.mg_f_run T.kp_f_run (T.bd .f_run) (takes_of rfl rfl rfl rfl) (pda_cons (pd_var 1) (pda_cons (pd_var 2) (pda_cons (pd_var 5) (pda_cons (pd_var 6) pda_nil))))) (nomark _)) (pssd_one (psd_ret pd_bl)) pssd_nil)
    (pssd_cons (psd_asg (pd_sub (hu_of hr) (pd_call (ih .f_run) (hr.mono (Nat.le_refl _)) (by rfl) T.mg_f_run T.kp_f_run (T.bd .f_run) (takes_of rfl rfl rfl rfl) (pda_cons (pd_var 1) (pda_cons (pd_tup (pda_cons pd_str (pda_cons (pd_var 2) (pda_cons (pd_var 3) pda_nil)))) (pda_cons (pd_var 5) (pda_cons (pd_var 6) pda_nil))))) pd_int) (pgd_name 9 sc_f_law.nd))
    (pssd_cons (psd_asg (pd_sub (hu_of hr) (pd_call (ih .f_run) (hr.mono (Nat.le_refl _)) (by rfl) T.mg_f_run T.kp_f_run (T.bd .f_run) (takes_of rfl rfl rfl rfl) (pda_cons (pd_var 1) (pda_cons (pd_tup (pda_cons pd_str (pda_cons (pd_var 3) (pda_cons (pd_var 2) pda_nil)))) (pda_cons (pd_var 5) (pda_cons (pd_var 6) pda_nil))))) pd_int) (pgd_name 10 sc_f_law.nd))
    (pssd_cons (psd_if (PW.pt (pwd_or (ptd_cmp (od_ne hr.units) (pd_bin od_add (pd_var 9) (pd_var 10)) (pd_callTy cd_int (by rfl) T.z_int (by rfl) (pda_cons (pd_cmp (od_ne hr.units) (pd_sub (hu_of hr) (pd_var 7) pd_int) (pd_sub (hu_of hr) (pd_var 7) pd_int) (nomark _)) pda_nil)) (nomark _)) (pwd_or1 (ptd_cmp (od_notIn hr.u65) (pd_var 9) (pd_tup (pda_cons pd_int (pda_cons pd_int pda_nil))) (by rfl))))) (pssd_one (psd_ret pd_bl)) pssd_nil)
    (pssd_cons (psd_asg (pd_tup (pda_cons pd_str (pda_cons (pd_tup (pda_cons pd_str (pda_cons (pd_var 2) (pda_cons (pd_var 3) pda_nil)))) (pda_cons (pd_var 2) (pda_cons (pd_var 3) pda_nil))))) (pgd_name 11 sc_f_law.nd))
    (pssd_cons (psd_asg (pd_call (ih .f_run) (hr.mono (Nat.le_refl _)) (by rfl) T.mg_f_run T.kp_f_run (T.bd .f_run) (takes_of rfl rfl rfl rfl) (pda_cons (pd_var 1) (pda_cons (pd_var 11) (pda_cons (pd_var 5) (pda_cons (pd_var 6) pda_nil))))) (pgd_name 12 sc_f_law.nd))
    (pssd_cons (psd_if (ptd_cmp (od_ne hr.units) (pd_var 12) (pd_tup (pda_cons (pd_callB (cd_min rfl) (by rfl) T.z_min (by rfl) (pda_cons (pd_sl (pd_var 7) pod_none (pod_some pd_int)) pda_nil)) (pda_cons (pd_var 5) (pda_cons (pd_lst pda_nil) (pda_cons pd_int pda_nil))))) (nomark _)) (pssd_one (psd_ret pd_bl)) pssd_nil)
    (pssd_cons (psd_asg (pd_call (ih .f__law_light) (hr.mono (Nat.le_refl _)) (by rfl) T.mg_f__law_light T.kp_f__law_light (T.bd .f__law_light) (takes_of rfl rfl rfl rfl) (pda_cons (pd_var 0) (pda_cons pd_int (pda_cons pd_int (pda_cons (pd_var 1) pda_nil))))) (pgd_name 13 sc_f_law.nd))
    (pssd_one (psd_ret (pd_chain od_le od_le pd_int (pd_sub (hu_of hr) (pd_call (ih .f_run) (hr.mono (Nat.le_refl _)) (by rfl) T.mg_f_run T.kp_f_run (T.bd .f_run) (takes_of rfl rfl rfl rfl) (pda_cons (pd_var 1) (pda_cons (pd_var 13) (pda_cons (pd_var 5) (pda_cons (pd_var 6) pda_nil))))) pd_int) pd_int))))))))))))))))))))
theorem all_ok (T : Tx K mg fa fdt ca ea) : ∀ n, (∀ i, Ok P w K mg base fa fdt ca ea n i) ∧ ∀ i, Ok P w K mg base fa fdt ca ea (n + 1) i
  | 0 => ⟨fun i => by cases i <;> exact fn_zero, fun i => by cases i <;> exact fn_zero.mono (Nat.zero_le _)⟩
  | n + 1 => by
    obtain ⟨h2, h1⟩ := all_ok T n
    refine ⟨h1, fun i => ?_⟩
    cases i
    · exact ok_m_Run_init T h1 h2
    · exact ok_m_Run_touch T h1 h2
    · exact ok_m_Run_worth T h1 h2
    · exact ok_m_Run_at_shelf T h1 h2
    · exact ok_m_Run_with_names T h1 h2
    · exact ok_m_Run_put_together T h1 h2
    · exact ok_m_World_init T h1 h2
    · exact ok_m_World_touched T h1 h2
    · exact ok_m_World_shelves T h1 h2
    · exact ok_f_finished T h1 h2
    · exact ok_f_run T h1 h2
    · exact ok_f__law_cell T h1 h2
    · exact ok_f__law_drawn T h1 h2
    · exact ok_f__law_leaf T h1 h2
    · exact ok_f__law_deed T h1 h2
    · exact ok_f__law_call T h1 h2
    · exact ok_f__law_rules T h1 h2
    · exact ok_f__law_store T h1 h2
    · exact ok_f__law_asked T h1 h2
    · exact ok_f__law_quiet T h1 h2
    · exact ok_f__law_weight T h1 h2
    · exact ok_f__law_light T h1 h2
    · exact ok_f_law T h1 h2
end
def spLaw (K : PySem.W.Frag) : Sp := fun vs H Q _ => ∃ (a : Addr) (ns : List Int), vs = [.ref a] ∧ SqL K H a (ns.map V.int) ∧ Only H ∧ ns.length ≤ 63 ∧ ∀ H', Q (.bl true) H'
def lev : Nat := 231
theorem sp_law {K : PySem.W.Frag} {ca : Cid → Addr} {ea : Eid → Addr} (vs : List V) (H : Hp) (Q : VK) (E : XK) (h : spLaw K vs H Q E) : spD ⟨K, cA ca, xA ea⟩ 1 (lsem lev .f_law) vs H Q E := by
  obtain ⟨a, ns, rfl, hq, hO, hl, k⟩ := h
  obtain ⟨S, e⟩ := law_true ns hl
  refine ⟨[], [], [.seq (ns.map .int)], rfl, hs_nil _ _, .cons ?_ .nil, ?_⟩
  · exact rv_script hO hq
  · have e2 : lsem lev .f_law [.seq (ns.map .int)] [] = .ok (.bl true) S := e
    rw [e2]
    rintro v μ' H' g hs r
    cases r
    exact k H'
theorem all_mk {l : PySem.W.OpenLaw} {w : World} {K : PySem.W.Frag} {h : Heap} {mg : Str → Option Value} {f_a : Addr} (X : K.In h) (G : h.Ns mainGlobals mg) (hfa : mg "law" = some (.ref f_a))
    {a0 : Addr} {od0 an0 : Option Addr} {sl0 : Array (Option Value)} {oc0 kV0 dc0 pm0 cd0 ct0 : Value}
    {a1 : Addr} {od1 an1 : Option Addr} {sl1 : Array (Option Value)} {oc1 kV1 dc1 pm1 cd1 ct1 : Value}
    {a2 : Addr} {od2 an2 : Option Addr} {sl2 : Array (Option Value)} {oc2 kV2 dc2 pm2 cd2 ct2 : Value}
    {a3 : Addr} {od3 an3 : Option Addr} {sl3 : Array (Option Value)} {oc3 kV3 dc3 pm3 cd3 ct3 : Value}
    {a4 : Addr} {od4 an4 : Option Addr} {sl4 : Array (Option Value)} {oc4 kV4 dc4 pm4 cd4 ct4 : Value}
    {a5 : Addr} {od5 an5 : Option Addr} {sl5 : Array (Option Value)} {oc5 kV5 dc5 pm5 cd5 ct5 : Value}
    {a6 : Addr} {od6 an6 : Option Addr} {sl6 : Array (Option Value)} {oc6 kV6 dc6 pm6 cd6 ct6 : Value}
    {a7 : Addr} {od7 an7 : Option Addr} {sl7 : Array (Option Value)} {oc7 kV7 dc7 pm7 cd7 ct7 : Value}
    {a8 : Addr} {od8 an8 : Option Addr} {sl8 : Array (Option Value)} {oc8 kV8 dc8 pm8 cd8 ct8 : Value}
    {a9 : Addr} {od9 an9 : Option Addr} {sl9 : Array (Option Value)} {oc9 kV9 dc9 pm9 cd9 ct9 : Value}
    {a10 : Addr} {od10 an10 : Option Addr} {sl10 : Array (Option Value)} {oc10 kV10 dc10 pm10 cd10 ct10 : Value}
    {a11 : Addr} {od11 an11 : Option Addr} {sl11 : Array (Option Value)} {oc11 kV11 dc11 pm11 cd11 ct11 : Value}
    {a12 : Addr} {od12 an12 : Option Addr} {sl12 : Array (Option Value)} {oc12 kV12 dc12 pm12 cd12 ct12 : Value}
    {a13 : Addr} {od13 an13 : Option Addr} {sl13 : Array (Option Value)} {oc13 kV13 dc13 pm13 cd13 ct13 : Value}
    {a14 : Addr} {od14 an14 : Option Addr} {sl14 : Array (Option Value)} {oc14 kV14 dc14 pm14 cd14 ct14 : Value}
    {a15 : Addr} {od15 an15 : Option Addr} {sl15 : Array (Option Value)} {oc15 kV15 dc15 pm15 cd15 ct15 : Value}
    {a16 : Addr} {od16 an16 : Option Addr} {sl16 : Array (Option Value)} {oc16 kV16 dc16 pm16 cd16 ct16 : Value}
    {a17 : Addr} {od17 an17 : Option Addr} {sl17 : Array (Option Value)} {oc17 kV17 dc17 pm17 cd17 ct17 : Value}
    {a18 : Addr} {od18 an18 : Option Addr} {sl18 : Array (Option Value)} {oc18 kV18 dc18 pm18 cd18 ct18 : Value}
    {a19 : Addr} {od19 an19 : Option Addr} {sl19 : Array (Option Value)} {oc19 kV19 dc19 pm19 cd19 ct19 : Value}
    {a20 : Addr} {od20 an20 : Option Addr} {sl20 : Array (Option Value)} {oc20 kV20 dc20 pm20 cd20 ct20 : Value}
    {a21 : Addr} {od21 an21 : Option Addr} {sl21 : Array (Option Value)} {oc21 kV21 dc21 pm21 cd21 ct21 : Value}
    {a22 : Addr} {od22 an22 : Option Addr} {sl22 : Array (Option Value)} {oc22 kV22 dc22 pm22 cd22 ct22 : Value}
    {C0 : Addr}
    {C1 : Addr}
    {E0 : Addr}
    {t0 : Tok}
    {t1 : Tok}
    {t2 : Tok}
    (aC0 : PySem.W.nsIn K mainGlobals "Run" = some (some (.ref C0)))
    (pg0 : PySem.W.plainGet K C0 Str.empty = true)
    (hd0 : PySem.W.hasDictIn K C0 = true)
    (po0 : PySem.W.plainOver K C0 = true)
    (sa0 : PySem.W.findIn K (.ref C0) "__setattr__" = some (some (.builtin "object.__setattr__")))
    (mk0 : PySem.W.makesIn K C0 = true)
    (kc0 : PySem.W.keepIn K (.ref C0) = true)
    (n0_0 : PySem.W.findIn K (.ref C0) "rules" = some none)
    (n0_1 : PySem.W.findIn K (.ref C0) "world" = some none)
    (n0_2 : PySem.W.findIn K (.ref C0) "answers" = some none)
    (n0_3 : PySem.W.findIn K (.ref C0) "place" = some none)
    (n0_4 : PySem.W.findIn K (.ref C0) "wanted" = some none)
    (n0_5 : PySem.W.findIn K (.ref C0) "cells" = some none)
    (n0_6 : PySem.W.findIn K (.ref C0) "kept" = some none)
    (n0_7 : PySem.W.findIn K (.ref C0) "asked" = some none)
    (n0_8 : PySem.W.findIn K (.ref C0) "many" = some none)
    (n0_9 : PySem.W.findIn K (.ref C0) "spoken" = some none)
    (n0_10 : PySem.W.findIn K (.ref C0) "marks" = some none)
    (aC1 : PySem.W.nsIn K mainGlobals "World" = some (some (.ref C1)))
    (pg1 : PySem.W.plainGet K C1 Str.empty = true)
    (hd1 : PySem.W.hasDictIn K C1 = true)
    (po1 : PySem.W.plainOver K C1 = true)
    (sa1 : PySem.W.findIn K (.ref C1) "__setattr__" = some (some (.builtin "object.__setattr__")))
    (mk1 : PySem.W.makesIn K C1 = true)
    (kc1 : PySem.W.keepIn K (.ref C1) = true)
    (n1_0 : PySem.W.findIn K (.ref C1) "rules" = some none)
    (n1_1 : PySem.W.findIn K (.ref C1) "world" = some none)
    (n1_2 : PySem.W.findIn K (.ref C1) "answers" = some none)
    (n1_3 : PySem.W.findIn K (.ref C1) "place" = some none)
    (n1_4 : PySem.W.findIn K (.ref C1) "wanted" = some none)
    (n1_5 : PySem.W.findIn K (.ref C1) "cells" = some none)
    (n1_6 : PySem.W.findIn K (.ref C1) "kept" = some none)
    (n1_7 : PySem.W.findIn K (.ref C1) "asked" = some none)
    (n1_8 : PySem.W.findIn K (.ref C1) "many" = some none)
    (n1_9 : PySem.W.findIn K (.ref C1) "spoken" = some none)
    (n1_10 : PySem.W.findIn K (.ref C1) "marks" = some none)
    (aE0 : PySem.W.nsIn K mainGlobals "Pause" = some (some (.ref E0)))
    (xE0 : PySem.W.excIn K E0 [.type "Exception", .type "BaseException", .type "object"] "Exception.__new__" = true)
    (kE0 : PySem.W.keepIn K (.ref E0) = true)
    (bE0 : PySem.W.subIn K (.ref E0) (.type "BaseException") = some true)
    (tE0 : PySem.W.typeIn K (.ref E0) = some (.type "type"))
    (iE0 : PySem.W.isClsIn K E0 = true)
    (sE0 : PySem.W.subIn K (.ref E0) (.ref E0) = some true)
    (a_0 : PySem.W.findIn K (.ref C0) "__init__" = some (some (.ref a0)))
    (i_0 : PySem.W.isFn K (.ref a0) = true)
    (l_0 : K.lookup a0 = some ⟨oc0, od0, .func (PySem.W.fnOf "__init__" "Run.__init__" (defArgs (stm .m_Run_init)) (defBody (stm .m_Run_init)) (defScope (stm .m_Run_init)) .none kV0 dc0 pm0 an0 cd0 ct0), sl0⟩)
    (c_0 : PySem.W.codeIn K cd0 "Run.__init__" = true)
    (k_0 : PySem.W.keepIn K (.ref a0) = true)
    (a_1 : PySem.W.findIn K (.ref C0) "touch" = some (some (.ref a1)))
    (i_1 : PySem.W.isFn K (.ref a1) = true)
    (l_1 : K.lookup a1 = some ⟨oc1, od1, .func (PySem.W.fnOf "touch" "Run.touch" (defArgs (stm .m_Run_touch)) (defBody (stm .m_Run_touch)) (defScope (stm .m_Run_touch)) .none kV1 dc1 pm1 an1 cd1 ct1), sl1⟩)
    (c_1 : PySem.W.codeIn K cd1 "Run.touch" = true)
    (k_1 : PySem.W.keepIn K (.ref a1) = true)
    (a_2 : PySem.W.findIn K (.ref C0) "worth" = some (some (.ref a2)))
    (i_2 : PySem.W.isFn K (.ref a2) = true)
    (l_2 : K.lookup a2 = some ⟨oc2, od2, .func (PySem.W.fnOf "worth" "Run.worth" (defArgs (stm .m_Run_worth)) (defBody (stm .m_Run_worth)) (defScope (stm .m_Run_worth)) .none kV2 dc2 pm2 an2 cd2 ct2), sl2⟩)
    (c_2 : PySem.W.codeIn K cd2 "Run.worth" = true)
    (k_2 : PySem.W.keepIn K (.ref a2) = true)
    (a_3 : PySem.W.findIn K (.ref C0) "at_shelf" = some (some (.ref a3)))
    (i_3 : PySem.W.isFn K (.ref a3) = true)
    (l_3 : K.lookup a3 = some ⟨oc3, od3, .func (PySem.W.fnOf "at_shelf" "Run.at_shelf" (defArgs (stm .m_Run_at_shelf)) (defBody (stm .m_Run_at_shelf)) (defScope (stm .m_Run_at_shelf)) .none kV3 dc3 pm3 an3 cd3 ct3), sl3⟩)
    (c_3 : PySem.W.codeIn K cd3 "Run.at_shelf" = true)
    (k_3 : PySem.W.keepIn K (.ref a3) = true)
    (a_4 : PySem.W.findIn K (.ref C0) "with_names" = some (some (.ref a4)))
    (i_4 : PySem.W.isFn K (.ref a4) = true)
    (l_4 : K.lookup a4 = some ⟨oc4, od4, .func (PySem.W.fnOf "with_names" "Run.with_names" (defArgs (stm .m_Run_with_names)) (defBody (stm .m_Run_with_names)) (defScope (stm .m_Run_with_names)) .none kV4 dc4 pm4 an4 cd4 ct4), sl4⟩)
    (c_4 : PySem.W.codeIn K cd4 "Run.with_names" = true)
    (k_4 : PySem.W.keepIn K (.ref a4) = true)
    (a_5 : PySem.W.findIn K (.ref C0) "put_together" = some (some (.ref a5)))
    (i_5 : PySem.W.isFn K (.ref a5) = true)
    (l_5 : K.lookup a5 = some ⟨oc5, od5, .func (PySem.W.fnOf "put_together" "Run.put_together" (defArgs (stm .m_Run_put_together)) (defBody (stm .m_Run_put_together)) (defScope (stm .m_Run_put_together)) .none kV5 dc5 pm5 an5 cd5 ct5), sl5⟩)
    (c_5 : PySem.W.codeIn K cd5 "Run.put_together" = true)
    (k_5 : PySem.W.keepIn K (.ref a5) = true)
    (a_6 : PySem.W.findIn K (.ref C1) "__init__" = some (some (.ref a6)))
    (i_6 : PySem.W.isFn K (.ref a6) = true)
    (l_6 : K.lookup a6 = some ⟨oc6, od6, .func (PySem.W.fnOf "__init__" "World.__init__" (defArgs (stm .m_World_init)) (defBody (stm .m_World_init)) (defScope (stm .m_World_init)) .none kV6 dc6 pm6 an6 cd6 ct6), sl6⟩)
    (c_6 : PySem.W.codeIn K cd6 "World.__init__" = true)
    (k_6 : PySem.W.keepIn K (.ref a6) = true)
    (a_7 : PySem.W.findIn K (.ref C1) "touched" = some (some (.ref a7)))
    (i_7 : PySem.W.isFn K (.ref a7) = true)
    (l_7 : K.lookup a7 = some ⟨oc7, od7, .func (PySem.W.fnOf "touched" "World.touched" (defArgs (stm .m_World_touched)) (defBody (stm .m_World_touched)) (defScope (stm .m_World_touched)) .none kV7 dc7 pm7 an7 cd7 ct7), sl7⟩)
    (c_7 : PySem.W.codeIn K cd7 "World.touched" = true)
    (k_7 : PySem.W.keepIn K (.ref a7) = true)
    (a_8 : PySem.W.findIn K (.ref C1) "shelves" = some (some (.ref a8)))
    (i_8 : PySem.W.isFn K (.ref a8) = true)
    (l_8 : K.lookup a8 = some ⟨oc8, od8, .func (PySem.W.fnOf "shelves" "World.shelves" (defArgs (stm .m_World_shelves)) (defBody (stm .m_World_shelves)) (defScope (stm .m_World_shelves)) .none kV8 dc8 pm8 an8 cd8 ct8), sl8⟩)
    (c_8 : PySem.W.codeIn K cd8 "World.shelves" = true)
    (k_8 : PySem.W.keepIn K (.ref a8) = true)
    (a_9 : PySem.W.nsIn K mainGlobals "finished" = some (some (.ref a9)))
    (l_9 : K.lookup a9 = some ⟨oc9, od9, .func (PySem.W.fnOf "finished" "finished" (defArgs (stm .f_finished)) (defBody (stm .f_finished)) (defScope (stm .f_finished)) .none kV9 dc9 pm9 an9 cd9 ct9), sl9⟩)
    (c_9 : PySem.W.codeIn K cd9 "finished" = true)
    (k_9 : PySem.W.keepIn K (.ref a9) = true)
    (a_10 : PySem.W.nsIn K mainGlobals "run" = some (some (.ref a10)))
    (l_10 : K.lookup a10 = some ⟨oc10, od10, .func (PySem.W.fnOf "run" "run" (defArgs (stm .f_run)) (defBody (stm .f_run)) (defScope (stm .f_run)) .none kV10 dc10 pm10 an10 cd10 ct10), sl10⟩)
    (c_10 : PySem.W.codeIn K cd10 "run" = true)
    (k_10 : PySem.W.keepIn K (.ref a10) = true)
    (a_11 : PySem.W.nsIn K mainGlobals "_law_cell" = some (some (.ref a11)))
    (l_11 : K.lookup a11 = some ⟨oc11, od11, .func (PySem.W.fnOf "_law_cell" "_law_cell" (defArgs (stm .f__law_cell)) (defBody (stm .f__law_cell)) (defScope (stm .f__law_cell)) .none kV11 dc11 pm11 an11 cd11 ct11), sl11⟩)
    (c_11 : PySem.W.codeIn K cd11 "_law_cell" = true)
    (k_11 : PySem.W.keepIn K (.ref a11) = true)
    (a_12 : PySem.W.nsIn K mainGlobals "_law_drawn" = some (some (.ref a12)))
    (l_12 : K.lookup a12 = some ⟨oc12, od12, .func (PySem.W.fnOf "_law_drawn" "_law_drawn" (defArgs (stm .f__law_drawn)) (defBody (stm .f__law_drawn)) (defScope (stm .f__law_drawn)) .none kV12 dc12 pm12 an12 cd12 ct12), sl12⟩)
    (c_12 : PySem.W.codeIn K cd12 "_law_drawn" = true)
    (k_12 : PySem.W.keepIn K (.ref a12) = true)
    (a_13 : PySem.W.nsIn K mainGlobals "_law_leaf" = some (some (.ref a13)))
    (l_13 : K.lookup a13 = some ⟨oc13, od13, .func (PySem.W.fnOf "_law_leaf" "_law_leaf" (defArgs (stm .f__law_leaf)) (defBody (stm .f__law_leaf)) (defScope (stm .f__law_leaf)) .none kV13 dc13 pm13 an13 cd13 ct13), sl13⟩)
    (c_13 : PySem.W.codeIn K cd13 "_law_leaf" = true)
    (k_13 : PySem.W.keepIn K (.ref a13) = true)
    (a_14 : PySem.W.nsIn K mainGlobals "_law_deed" = some (some (.ref a14)))
    (l_14 : K.lookup a14 = some ⟨oc14, od14, .func (PySem.W.fnOf "_law_deed" "_law_deed" (defArgs (stm .f__law_deed)) (defBody (stm .f__law_deed)) (defScope (stm .f__law_deed)) .none kV14 dc14 pm14 an14 cd14 ct14), sl14⟩)
    (c_14 : PySem.W.codeIn K cd14 "_law_deed" = true)
    (k_14 : PySem.W.keepIn K (.ref a14) = true)
    (a_15 : PySem.W.nsIn K mainGlobals "_law_call" = some (some (.ref a15)))
    (l_15 : K.lookup a15 = some ⟨oc15, od15, .func (PySem.W.fnOf "_law_call" "_law_call" (defArgs (stm .f__law_call)) (defBody (stm .f__law_call)) (defScope (stm .f__law_call)) .none kV15 dc15 pm15 an15 cd15 ct15), sl15⟩)
    (c_15 : PySem.W.codeIn K cd15 "_law_call" = true)
    (k_15 : PySem.W.keepIn K (.ref a15) = true)
    (a_16 : PySem.W.nsIn K mainGlobals "_law_rules" = some (some (.ref a16)))
    (l_16 : K.lookup a16 = some ⟨oc16, od16, .func (PySem.W.fnOf "_law_rules" "_law_rules" (defArgs (stm .f__law_rules)) (defBody (stm .f__law_rules)) (defScope (stm .f__law_rules)) .none kV16 dc16 pm16 an16 cd16 ct16), sl16⟩)
    (c_16 : PySem.W.codeIn K cd16 "_law_rules" = true)
    (k_16 : PySem.W.keepIn K (.ref a16) = true)
    (a_17 : PySem.W.nsIn K mainGlobals "_law_store" = some (some (.ref a17)))
    (l_17 : K.lookup a17 = some ⟨oc17, od17, .func (PySem.W.fnOf "_law_store" "_law_store" (defArgs (stm .f__law_store)) (defBody (stm .f__law_store)) (defScope (stm .f__law_store)) .none kV17 dc17 pm17 an17 cd17 ct17), sl17⟩)
    (c_17 : PySem.W.codeIn K cd17 "_law_store" = true)
    (k_17 : PySem.W.keepIn K (.ref a17) = true)
    (a_18 : PySem.W.nsIn K mainGlobals "_law_asked" = some (some (.ref a18)))
    (l_18 : K.lookup a18 = some ⟨oc18, od18, .func (PySem.W.fnOf "_law_asked" "_law_asked" (defArgs (stm .f__law_asked)) (defBody (stm .f__law_asked)) (defScope (stm .f__law_asked)) .none kV18 dc18 pm18 an18 cd18 ct18), sl18⟩)
    (c_18 : PySem.W.codeIn K cd18 "_law_asked" = true)
    (k_18 : PySem.W.keepIn K (.ref a18) = true)
    (a_19 : PySem.W.nsIn K mainGlobals "_law_quiet" = some (some (.ref a19)))
    (l_19 : K.lookup a19 = some ⟨oc19, od19, .func (PySem.W.fnOf "_law_quiet" "_law_quiet" (defArgs (stm .f__law_quiet)) (defBody (stm .f__law_quiet)) (defScope (stm .f__law_quiet)) .none kV19 dc19 pm19 an19 cd19 ct19), sl19⟩)
    (c_19 : PySem.W.codeIn K cd19 "_law_quiet" = true)
    (k_19 : PySem.W.keepIn K (.ref a19) = true)
    (a_20 : PySem.W.nsIn K mainGlobals "_law_weight" = some (some (.ref a20)))
    (l_20 : K.lookup a20 = some ⟨oc20, od20, .func (PySem.W.fnOf "_law_weight" "_law_weight" (defArgs (stm .f__law_weight)) (defBody (stm .f__law_weight)) (defScope (stm .f__law_weight)) .none kV20 dc20 pm20 an20 cd20 ct20), sl20⟩)
    (c_20 : PySem.W.codeIn K cd20 "_law_weight" = true)
    (k_20 : PySem.W.keepIn K (.ref a20) = true)
    (a_21 : PySem.W.nsIn K mainGlobals "_law_light" = some (some (.ref a21)))
    (l_21 : K.lookup a21 = some ⟨oc21, od21, .func (PySem.W.fnOf "_law_light" "_law_light" (defArgs (stm .f__law_light)) (defBody (stm .f__law_light)) (defScope (stm .f__law_light)) .none kV21 dc21 pm21 an21 cd21 ct21), sl21⟩)
    (c_21 : PySem.W.codeIn K cd21 "_law_light" = true)
    (k_21 : PySem.W.keepIn K (.ref a21) = true)
    (a_22 : PySem.W.nsIn K mainGlobals "law" = some (some (.ref a22)))
    (l_22 : K.lookup a22 = some ⟨oc22, od22, .func (PySem.W.fnOf "law" "law" (defArgs (stm .f_law)) (defBody (stm .f_law)) (defScope (stm .f_law)) .none kV22 dc22 pm22 an22 cd22 ct22), sl22⟩)
    (c_22 : PySem.W.codeIn K cd22 "law" = true)
    (k_22 : PySem.W.keepIn K (.ref a22) = true)
    (z_dict : PySem.W.nsIn K mainGlobals "dict" = some none)
    (z_int : PySem.W.nsIn K mainGlobals "int" = some none)
    (z_isinstance : PySem.W.nsIn K mainGlobals "isinstance" = some none)
    (z_len : PySem.W.nsIn K mainGlobals "len" = some none)
    (z_min : PySem.W.nsIn K mainGlobals "min" = some none)
    (z_range : PySem.W.nsIn K mainGlobals "range" = some none)
    (z_str : PySem.W.nsIn K mainGlobals "str" = some none)
    (z_sum : PySem.W.nsIn K mainGlobals "sum" = some none)
    (z_tuple : PySem.W.nsIn K mainGlobals "tuple" = some none)
    (z_zip : PySem.W.nsIn K mainGlobals "zip" = some none)
    (g_MOST_TURNS : PySem.W.nsIn K mainGlobals "MOST_TURNS" = some (some (.int 4 t0)))
    (g_SHELVES : PySem.W.nsIn K mainGlobals "SHELVES" = some (some (.str "abcd" t1)))
    (g_SIZE : PySem.W.nsIn K mainGlobals "SIZE" = some (some (.int 1009 t2)))
    : ∃ fd : FuncData, (∀ (s : Shared) (v : Value), BindsTo s fd ⟨[v], []⟩ [("_law_script", v)]) ∧ ∀ base : Heap, K.In base → base.Ns mainGlobals mg → FnOk l.prog w K mg base (L2.CX l.prog w) lev f_a fd ["_law_script"] (spLaw K) := by
  have e := hfa.symm.trans (PySem.W.mg_of X G a_22)
  cases e
  have F0 := fun_mk (st := stm .m_Run_init) l_0 c_0 k_0
  have B0 := F0.binds (ps := pas .m_Run_init) fun _ _ _ _ _ _ us hl => match us, hl with | [_, _, _, _], _ => rfl
  have F1 := fun_mk (st := stm .m_Run_touch) l_1 c_1 k_1
  have B1 := F1.binds (ps := pas .m_Run_touch) fun _ _ _ _ _ _ us hl => match us, hl with | [_, _], _ => rfl
  have F2 := fun_mk (st := stm .m_Run_worth) l_2 c_2 k_2
  have B2 := F2.binds (ps := pas .m_Run_worth) fun _ _ _ _ _ _ us hl => match us, hl with | [_, _, _], _ => rfl
  have F3 := fun_mk (st := stm .m_Run_at_shelf) l_3 c_3 k_3
  have B3 := F3.binds (ps := pas .m_Run_at_shelf) fun _ _ _ _ _ _ us hl => match us, hl with | [_, _, _], _ => rfl
  have F4 := fun_mk (st := stm .m_Run_with_names) l_4 c_4 k_4
  have B4 := F4.binds (ps := pas .m_Run_with_names) fun _ _ _ _ _ _ us hl => match us, hl with | [_, _, _], _ => rfl
  have F5 := fun_mk (st := stm .m_Run_put_together) l_5 c_5 k_5
  have B5 := F5.binds (ps := pas .m_Run_put_together) fun _ _ _ _ _ _ us hl => match us, hl with | [_, _, _], _ => rfl
  have F6 := fun_mk (st := stm .m_World_init) l_6 c_6 k_6
  have B6 := F6.binds (ps := pas .m_World_init) fun _ _ _ _ _ _ us hl => match us, hl with | [_, _, _], _ => rfl
  have F7 := fun_mk (st := stm .m_World_touched) l_7 c_7 k_7
  have B7 := F7.binds (ps := pas .m_World_touched) fun _ _ _ _ _ _ us hl => match us, hl with | [_, _], _ => rfl
  have F8 := fun_mk (st := stm .m_World_shelves) l_8 c_8 k_8
  have B8 := F8.binds (ps := pas .m_World_shelves) fun _ _ _ _ _ _ us hl => match us, hl with | [_], _ => rfl
  have F9 := fun_mk (st := stm .f_finished) l_9 c_9 k_9
  have B9 := F9.binds (ps := pas .f_finished) fun _ _ _ _ _ _ us hl => match us, hl with | [_, _, _], _ => rfl
  have F10 := fun_mk (st := stm .f_run) l_10 c_10 k_10
  have B10 := F10.binds (ps := pas .f_run) fun _ _ _ _ _ _ us hl => match us, hl with | [_, _, _, _], _ => rfl
  have F11 := fun_mk (st := stm .f__law_cell) l_11 c_11 k_11
  have B11 := F11.binds (ps := pas .f__law_cell) fun _ _ _ _ _ _ us hl => match us, hl with | [_, _], _ => rfl
  have F12 := fun_mk (st := stm .f__law_drawn) l_12 c_12 k_12
  have B12 := F12.binds (ps := pas .f__law_drawn) fun _ _ _ _ _ _ us hl => match us, hl with | [_, _, _], _ => rfl
  have F13 := fun_mk (st := stm .f__law_leaf) l_13 c_13 k_13
  have B13 := F13.binds (ps := pas .f__law_leaf) fun _ _ _ _ _ _ us hl => match us, hl with | [_, _, _], _ => rfl
  have F14 := fun_mk (st := stm .f__law_deed) l_14 c_14 k_14
  have B14 := F14.binds (ps := pas .f__law_deed) fun _ _ _ _ _ _ us hl => match us, hl with | [_, _, _, _, _], _ => rfl
  have F15 := fun_mk (st := stm .f__law_call) l_15 c_15 k_15
  have B15 := F15.binds (ps := pas .f__law_call) fun _ _ _ _ _ _ us hl => match us, hl with | [_, _, _, _, _], _ => rfl
  have F16 := fun_mk (st := stm .f__law_rules) l_16 c_16 k_16
  have B16 := F16.binds (ps := pas .f__law_rules) fun _ _ _ _ _ _ us hl => match us, hl with | [_, _], _ => rfl
  have F17 := fun_mk (st := stm .f__law_store) l_17 c_17 k_17
  have B17 := F17.binds (ps := pas .f__law_store) fun _ _ _ _ _ _ us hl => match us, hl with | [_, _], _ => rfl
  have F18 := fun_mk (st := stm .f__law_asked) l_18 c_18 k_18
  have B18 := F18.binds (ps := pas .f__law_asked) fun _ _ _ _ _ _ us hl => match us, hl with | [_, _], _ => rfl
  have F19 := fun_mk (st := stm .f__law_quiet) l_19 c_19 k_19
  have B19 := F19.binds (ps := pas .f__law_quiet) fun _ _ _ _ _ _ us hl => match us, hl with | [_, _], _ => rfl
  have F20 := fun_mk (st := stm .f__law_weight) l_20 c_20 k_20
  have B20 := F20.binds (ps := pas .f__law_weight) fun _ _ _ _ _ _ us hl => match us, hl with | [_, _, _], _ => rfl
  have F21 := fun_mk (st := stm .f__law_light) l_21 c_21 k_21
  have B21 := F21.binds (ps := pas .f__law_light) fun _ _ _ _ _ _ us hl => match us, hl with | [_, _, _, _], _ => rfl
  have F22 := fun_mk (st := stm .f_law) l_22 c_22 k_22
  have B22 := F22.binds (ps := pas .f_law) fun _ _ _ _ _ _ us hl => match us, hl with | [_], _ => rfl
  let fa : Fid → Addr := fun i => match i with | .m_Run_init => a0 | .m_Run_touch => a1 | .m_Run_worth => a2 | .m_Run_at_shelf => a3 | .m_Run_with_names => a4 | .m_Run_put_together => a5 | .m_World_init => a6 | .m_World_touched => a7 | .m_World_shelves => a8 | .f_finished => a9 | .f_run => a10 | .f__law_cell => a11 | .f__law_drawn => a12 | .f__law_leaf => a13 | .f__law_deed => a14 | .f__law_call => a15 | .f__law_rules => a16 | .f__law_store => a17 | .f__law_asked => a18 | .f__law_quiet => a19 | .f__law_weight => a20 | .f__law_light => a21 | .f_law => f_a
  let fdt : Fid → FuncData := fun i => match i with | .m_Run_init => PySem.W.fnOf "__init__" "Run.__init__" (defArgs (stm .m_Run_init)) (defBody (stm .m_Run_init)) (defScope (stm .m_Run_init)) .none kV0 dc0 pm0 an0 cd0 ct0 | .m_Run_touch => PySem.W.fnOf "touch" "Run.touch" (defArgs (stm .m_Run_touch)) (defBody (stm .m_Run_touch)) (defScope (stm .m_Run_touch)) .none kV1 dc1 pm1 an1 cd1 ct1 | .m_Run_worth => PySem.W.fnOf "worth" "Run.worth" (defArgs (stm .m_Run_worth)) (defBody (stm .m_Run_worth)) (defScope (stm .m_Run_worth)) .none kV2 dc2 pm2 an2 cd2 ct2 | .m_Run_at_shelf => PySem.W.fnOf "at_shelf" "Run.at_shelf" (defArgs (stm .m_Run_at_shelf)) (defBody (stm .m_Run_at_shelf)) (defScope (stm .m_Run_at_shelf)) .none kV3 dc3 pm3 an3 cd3 ct3 | .m_Run_with_names => PySem.W.fnOf "with_names" "Run.with_names" (defArgs (stm .m_Run_with_names)) (defBody (stm .m_Run_with_names)) (defScope (stm .m_Run_with_names)) .none kV4 dc4 pm4 an4 cd4 ct4 | .m_Run_put_together => PySem.W.fnOf "put_together" "Run.put_together" (defArgs (stm .m_Run_put_together)) (defBody (stm .m_Run_put_together)) (defScope (stm .m_Run_put_together)) .none kV5 dc5 pm5 an5 cd5 ct5 | .m_World_init => PySem.W.fnOf "__init__" "World.__init__" (defArgs (stm .m_World_init)) (defBody (stm .m_World_init)) (defScope (stm .m_World_init)) .none kV6 dc6 pm6 an6 cd6 ct6 | .m_World_touched => PySem.W.fnOf "touched" "World.touched" (defArgs (stm .m_World_touched)) (defBody (stm .m_World_touched)) (defScope (stm .m_World_touched)) .none kV7 dc7 pm7 an7 cd7 ct7 | .m_World_shelves => PySem.W.fnOf "shelves" "World.shelves" (defArgs (stm .m_World_shelves)) (defBody (stm .m_World_shelves)) (defScope (stm .m_World_shelves)) .none kV8 dc8 pm8 an8 cd8 ct8 | .f_finished => PySem.W.fnOf "finished" "finished" (defArgs (stm .f_finished)) (defBody (stm .f_finished)) (defScope (stm .f_finished)) .none kV9 dc9 pm9 an9 cd9 ct9 | .f_run => PySem.W.fnOf "run" "run" (defArgs (stm .f_run)) (defBody (stm .f_run)) (defScope (stm .f_run)) .none kV10 dc10 pm10 an10 cd10 ct10 | .f__law_cell => PySem.W.fnOf "_law_cell" "_law_cell" (defArgs (stm .f__law_cell)) (defBody (stm .f__law_cell)) (defScope (stm .f__law_cell)) .none kV11 dc11 pm11 an11 cd11 ct11 | .f__law_drawn => PySem.W.fnOf "_law_drawn" "_law_drawn" (defArgs (stm .f__law_drawn)) (defBody (stm .f__law_drawn)) (defScope (stm .f__law_drawn)) .none kV12 dc12 pm12 an12 cd12 ct12 | .f__law_leaf => PySem.W.fnOf "_law_leaf" "_law_leaf" (defArgs (stm .f__law_leaf)) (defBody (stm .f__law_leaf)) (defScope (stm .f__law_leaf)) .none kV13 dc13 pm13 an13 cd13 ct13 | .f__law_deed => PySem.W.fnOf "_law_deed" "_law_deed" (defArgs (stm .f__law_deed)) (defBody (stm .f__law_deed)) (defScope (stm .f__law_deed)) .none kV14 dc14 pm14 an14 cd14 ct14 | .f__law_call => PySem.W.fnOf "_law_call" "_law_call" (defArgs (stm .f__law_call)) (defBody (stm .f__law_call)) (defScope (stm .f__law_call)) .none kV15 dc15 pm15 an15 cd15 ct15 | .f__law_rules => PySem.W.fnOf "_law_rules" "_law_rules" (defArgs (stm .f__law_rules)) (defBody (stm .f__law_rules)) (defScope (stm .f__law_rules)) .none kV16 dc16 pm16 an16 cd16 ct16 | .f__law_store => PySem.W.fnOf "_law_store" "_law_store" (defArgs (stm .f__law_store)) (defBody (stm .f__law_store)) (defScope (stm .f__law_store)) .none kV17 dc17 pm17 an17 cd17 ct17 | .f__law_asked => PySem.W.fnOf "_law_asked" "_law_asked" (defArgs (stm .f__law_asked)) (defBody (stm .f__law_asked)) (defScope (stm .f__law_asked)) .none kV18 dc18 pm18 an18 cd18 ct18 | .f__law_quiet => PySem.W.fnOf "_law_quiet" "_law_quiet" (defArgs (stm .f__law_quiet)) (defBody (stm .f__law_quiet)) (defScope (stm .f__law_quiet)) .none kV19 dc19 pm19 an19 cd19 ct19 | .f__law_weight => PySem.W.fnOf "_law_weight" "_law_weight" (defArgs (stm .f__law_weight)) (defBody (stm .f__law_weight)) (defScope (stm .f__law_weight)) .none kV20 dc20 pm20 an20 cd20 ct20 | .f__law_light => PySem.W.fnOf "_law_light" "_law_light" (defArgs (stm .f__law_light)) (defBody (stm .f__law_light)) (defScope (stm .f__law_light)) .none kV21 dc21 pm21 an21 cd21 ct21 | .f_law => PySem.W.fnOf "law" "law" (defArgs (stm .f_law)) (defBody (stm .f_law)) (defScope (stm .f_law)) .none kV22 dc22 pm22 an22 cd22 ct22
  let ca : Cid → Addr := fun i => match i with | .Run => C0 | .World => C1
  let ea : Eid → Addr := fun i => match i with | .Pause => E0
  have T : Tx K mg fa fdt ca ea :=
    { fn := fun i => match i with | .m_Run_init => F0 | .m_Run_touch => F1 | .m_Run_worth => F2 | .m_Run_at_shelf => F3 | .m_Run_with_names => F4 | .m_Run_put_together => F5 | .m_World_init => F6 | .m_World_touched => F7 | .m_World_shelves => F8 | .f_finished => F9 | .f_run => F10 | .f__law_cell => F11 | .f__law_drawn => F12 | .f__law_leaf => F13 | .f__law_deed => F14 | .f__law_call => F15 | .f__law_rules => F16 | .f__law_store => F17 | .f__law_asked => F18 | .f__law_quiet => F19 | .f__law_weight => F20 | .f__law_light => F21 | .f_law => F22,
      bd := fun i => match i with | .m_Run_init => B0 | .m_Run_touch => B1 | .m_Run_worth => B2 | .m_Run_at_shelf => B3 | .m_Run_with_names => B4 | .m_Run_put_together => B5 | .m_World_init => B6 | .m_World_touched => B7 | .m_World_shelves => B8 | .f_finished => B9 | .f_run => B10 | .f__law_cell => B11 | .f__law_drawn => B12 | .f__law_leaf => B13 | .f__law_deed => B14 | .f__law_call => B15 | .f__law_rules => B16 | .f__law_store => B17 | .f__law_asked => B18 | .f__law_quiet => B19 | .f__law_weight => B20 | .f__law_light => B21 | .f_law => B22,
      cl := fun i => match i with | .Run => ⟨pg0, hd0, po0, sa0⟩ | .World => ⟨pg1, hd1, po1, sa1⟩,
      xc := fun i => match i with | .Pause => ⟨xE0, kE0, bE0, tE0, iE0, sE0⟩,
      mg_Pause := PySem.W.mg_of X G aE0,
      me_m_Run_touch := ⟨a_1, i_1, k_1⟩,
      me_m_Run_worth := ⟨a_2, i_2, k_2⟩,
      me_m_Run_at_shelf := ⟨a_3, i_3, k_3⟩,
      me_m_Run_with_names := ⟨a_4, i_4, k_4⟩,
      me_m_Run_put_together := ⟨a_5, i_5, k_5⟩,
      me_m_World_touched := ⟨a_7, i_7, k_7⟩,
      me_m_World_shelves := ⟨a_8, i_8, k_8⟩,
      mg_f_finished := PySem.W.mg_of X G a_9,
      kp_f_finished := k_9,
      mg_f_run := PySem.W.mg_of X G a_10,
      kp_f_run := k_10,
      mg_f__law_cell := PySem.W.mg_of X G a_11,
      kp_f__law_cell := k_11,
      mg_f__law_drawn := PySem.W.mg_of X G a_12,
      kp_f__law_drawn := k_12,
      mg_f__law_leaf := PySem.W.mg_of X G a_13,
      kp_f__law_leaf := k_13,
      mg_f__law_deed := PySem.W.mg_of X G a_14,
      kp_f__law_deed := k_14,
      mg_f__law_call := PySem.W.mg_of X G a_15,
      kp_f__law_call := k_15,
      mg_f__law_rules := PySem.W.mg_of X G a_16,
      kp_f__law_rules := k_16,
      mg_f__law_store := PySem.W.mg_of X G a_17,
      kp_f__law_store := k_17,
      mg_f__law_asked := PySem.W.mg_of X G a_18,
      kp_f__law_asked := k_18,
      mg_f__law_quiet := PySem.W.mg_of X G a_19,
      kp_f__law_quiet := k_19,
      mg_f__law_weight := PySem.W.mg_of X G a_20,
      kp_f__law_weight := k_20,
      mg_f__law_light := PySem.W.mg_of X G a_21,
      kp_f__law_light := k_21,
      mg_f_law := PySem.W.mg_of X G a_22,
      kp_f_law := k_22,
      mg_Run := PySem.W.mg_of X G aC0,
      mk_Run := ⟨mk0, a_0, i_0, kc0⟩,
      mg_World := PySem.W.mg_of X G aC1,
      mk_World := ⟨mk1, a_6, i_6, kc1⟩,
      na_rules := fun i => match i with | .Run => n0_0 | .World => n1_0,
      na_world := fun i => match i with | .Run => n0_1 | .World => n1_1,
      na_answers := fun i => match i with | .Run => n0_2 | .World => n1_2,
      na_place := fun i => match i with | .Run => n0_3 | .World => n1_3,
      na_wanted := fun i => match i with | .Run => n0_4 | .World => n1_4,
      na_cells := fun i => match i with | .Run => n0_5 | .World => n1_5,
      na_kept := fun i => match i with | .Run => n0_6 | .World => n1_6,
      na_asked := fun i => match i with | .Run => n0_7 | .World => n1_7,
      na_many := fun i => match i with | .Run => n0_8 | .World => n1_8,
      na_spoken := fun i => match i with | .Run => n0_9 | .World => n1_9,
      na_marks := fun i => match i with | .Run => n0_10 | .World => n1_10,
      z_dict := PySem.W.mg_none_of X G z_dict,
      z_int := PySem.W.mg_none_of X G z_int,
      z_isinstance := PySem.W.mg_none_of X G z_isinstance,
      z_len := PySem.W.mg_none_of X G z_len,
      z_min := PySem.W.mg_none_of X G z_min,
      z_range := PySem.W.mg_none_of X G z_range,
      z_str := PySem.W.mg_none_of X G z_str,
      z_sum := PySem.W.mg_none_of X G z_sum,
      z_tuple := PySem.W.mg_none_of X G z_tuple,
      z_zip := PySem.W.mg_none_of X G z_zip,
      g_MOST_TURNS := ⟨_, PySem.W.mg_of X G g_MOST_TURNS⟩,
      g_SHELVES := ⟨_, PySem.W.mg_of X G g_SHELVES⟩,
      g_SIZE := ⟨_, PySem.W.mg_of X G g_SIZE⟩ }
  exact ⟨fdt .f_law, fun s v => .of_eq rfl, fun base _ _ => ((all_ok (P := l.prog) (w := w) (base := base) T lev).1 .f_law).imp (fun vs H Q E h => sp_law vs H Q E h)⟩
theorem walk {l : PySem.W.OpenLaw} {q : Program} {loose : List Str} {XP : (Str → Option Value) → Heap → Prop} {YP : World → Heap → Prop} {d : DefRec} {K : Params → PySem.W.Frag} (hn : l.most = some 63) (hdf : d.params.defaults = [])
    (hY : ∀ (w : World) (h : Heap), YP w h → (K w.params).In h)
    (F : ∀ (w : World) (mg : Str → Option Value) (fa : Addr) (h : Heap), (K w.params).In h → h.Ns mainGlobals mg → mg d.name = some (.ref fa) →
      ∃ fd : FuncData, (∀ (s : Shared) (u : Value), BindsTo s fd ⟨[u], []⟩ [("_law_script", u)]) ∧ ∀ base : Heap, (K w.params).In base → base.Ns mainGlobals mg → FnOk l.prog w (K w.params) mg base (L2.CX l.prog w) lev fa fd ["_law_script"] (spLaw (K w.params))) :
    PySem.W.WalkO q loose XP YP l.row.toRowW d [] (fun f vs => PySem.call f vs) :=
  L2.walk_of (n := 63) (k := lev) (x := "_law_script") (CX := fun w => L2.CX l.prog w) (sp := fun w => spLaw (K w.params)) hn (by decide) hdf ⟨rfl, by decide, by decide⟩ hY F (fun _ _ a ns hl hO hS => ⟨a, ns, rfl, hS, hO, hl, fun _ => rfl⟩) fun _ _ _ _ _ z => no_exc z
end Lk17
open PySem PySem.W PyProof.Rows in
set_option maxRecDepth 100000 in
set_option maxHeartbeats 0 in
theorem PySem.Challenge.cw_shelfwork_k17_whole_reckoning_holds : PySem.Challenge.rw_shelfwork_k17_whole_reckoning.Holds := by
  w_on; o_law; k_head; (case hw => w_witness2)
  k_fill
  refine Lk17.walk (l := PySem.Challenge.rw_shelfwork_k17_whole_reckoning) rfl rfl (fun w h Y => PySem.W.kIn_of Y) ?F
  case F =>
    intro w mg fa h KX G hmg
    refine' Lk17.all_mk KX G hmg ?aC0 ?pg0 ?hd0 ?po0 ?sa0 ?mk0 ?kc0 ?n0_0 ?n0_1 ?n0_2 ?n0_3 ?n0_4 ?n0_5 ?n0_6 ?n0_7 ?n0_8 ?n0_9 ?n0_10 ?aC1 ?pg1 ?hd1 ?po1 ?sa1 ?mk1 ?kc1 ?n1_0 ?n1_1 ?n1_2 ?n1_3 ?n1_4 ?n1_5 ?n1_6 ?n1_7 ?n1_8 ?n1_9 ?n1_10 ?aE0 ?xE0 ?kE0 ?bE0 ?tE0 ?iE0 ?sE0 ?a_0 ?i_0 ?l_0 ?c_0 ?k_0 ?a_1 ?i_1 ?l_1 ?c_1 ?k_1 ?a_2 ?i_2 ?l_2 ?c_2 ?k_2 ?a_3 ?i_3 ?l_3 ?c_3 ?k_3 ?a_4 ?i_4 ?l_4 ?c_4 ?k_4 ?a_5 ?i_5 ?l_5 ?c_5 ?k_5 ?a_6 ?i_6 ?l_6 ?c_6 ?k_6 ?a_7 ?i_7 ?l_7 ?c_7 ?k_7 ?a_8 ?i_8 ?l_8 ?c_8 ?k_8 ?a_9 ?l_9 ?c_9 ?k_9 ?a_10 ?l_10 ?c_10 ?k_10 ?a_11 ?l_11 ?c_11 ?k_11 ?a_12 ?l_12 ?c_12 ?k_12 ?a_13 ?l_13 ?c_13 ?k_13 ?a_14 ?l_14 ?c_14 ?k_14 ?a_15 ?l_15 ?c_15 ?k_15 ?a_16 ?l_16 ?c_16 ?k_16 ?a_17 ?l_17 ?c_17 ?k_17 ?a_18 ?l_18 ?c_18 ?k_18 ?a_19 ?l_19 ?c_19 ?k_19 ?a_20 ?l_20 ?c_20 ?k_20 ?a_21 ?l_21 ?c_21 ?k_21 ?a_22 ?l_22 ?c_22 ?k_22 ?z_dict ?z_int ?z_isinstance ?z_len ?z_min ?z_range ?z_str ?z_sum ?z_tuple ?z_zip ?g_MOST_TURNS ?g_SHELVES ?g_SIZE
    (case aC0 => k_is)
    (case pg0 => k_is)
    (case hd0 => k_is)
    (case po0 => k_is)
    (case sa0 => k_is)
    (case mk0 => k_is)
    (case kc0 => k_is)
    (case n0_0 => k_is)
    (case n0_1 => k_is)
    (case n0_2 => k_is)
    (case n0_3 => k_is)
    (case n0_4 => k_is)
    (case n0_5 => k_is)
    (case n0_6 => k_is)
    (case n0_7 => k_is)
    (case n0_8 => k_is)
    (case n0_9 => k_is)
    (case n0_10 => k_is)
    (case aC1 => k_is)
    (case pg1 => k_is)
    (case hd1 => k_is)
    (case po1 => k_is)
    (case sa1 => k_is)
    (case mk1 => k_is)
    (case kc1 => k_is)
    (case n1_0 => k_is)
    (case n1_1 => k_is)
    (case n1_2 => k_is)
    (case n1_3 => k_is)
    (case n1_4 => k_is)
    (case n1_5 => k_is)
    (case n1_6 => k_is)
    (case n1_7 => k_is)
    (case n1_8 => k_is)
    (case n1_9 => k_is)
    (case n1_10 => k_is)
    (case aE0 => k_is)
    (case xE0 => k_exc)
    (case kE0 => k_is)
    (case bE0 => k_is)
    (case tE0 => k_is)
    (case iE0 => k_is)
    (case sE0 => first | rfl | k_is)
    (case a_0 => k_is)
    (case i_0 => k_is)
    (case l_0 => k_is)
    (case c_0 => k_is)
    (case k_0 => k_is)
    (case a_1 => k_is)
    (case i_1 => k_is)
    (case l_1 => k_is)
    (case c_1 => k_is)
    (case k_1 => k_is)
    (case a_2 => k_is)
    (case i_2 => k_is)
    (case l_2 => k_is)
    (case c_2 => k_is)
    (case k_2 => k_is)
    (case a_3 => k_is)
    (case i_3 => k_is)
    (case l_3 => k_is)
    (case c_3 => k_is)
    (case k_3 => k_is)
    (case a_4 => k_is)
    (case i_4 => k_is)
    (case l_4 => k_is)
    (case c_4 => k_is)
    (case k_4 => k_is)
    (case a_5 => k_is)
    (case i_5 => k_is)
    (case l_5 => k_is)
    (case c_5 => k_is)
    (case k_5 => k_is)
    (case a_6 => k_is)
    (case i_6 => k_is)
    (case l_6 => k_is)
    (case c_6 => k_is)
    (case k_6 => k_is)
    (case a_7 => k_is)
    (case i_7 => k_is)
    (case l_7 => k_is)
    (case c_7 => k_is)
    (case k_7 => k_is)
    (case a_8 => k_is)
    (case i_8 => k_is)
    (case l_8 => k_is)
    (case c_8 => k_is)
    (case k_8 => k_is)
    (case a_9 => k_is)
    (case l_9 => k_is)
    (case c_9 => k_is)
    (case k_9 => k_is)
    (case a_10 => k_is)
    (case l_10 => k_is)
    (case c_10 => k_is)
    (case k_10 => k_is)
    (case a_11 => k_is)
    (case l_11 => k_is)
    (case c_11 => k_is)
    (case k_11 => k_is)
    (case a_12 => k_is)
    (case l_12 => k_is)
    (case c_12 => k_is)
    (case k_12 => k_is)
    (case a_13 => k_is)
    (case l_13 => k_is)
    (case c_13 => k_is)
    (case k_13 => k_is)
    (case a_14 => k_is)
    (case l_14 => k_is)
    (case c_14 => k_is)
    (case k_14 => k_is)
    (case a_15 => k_is)
    (case l_15 => k_is)
    (case c_15 => k_is)
    (case k_15 => k_is)
    (case a_16 => k_is)
    (case l_16 => k_is)
    (case c_16 => k_is)
    (case k_16 => k_is)
    (case a_17 => k_is)
    (case l_17 => k_is)
    (case c_17 => k_is)
    (case k_17 => k_is)
    (case a_18 => k_is)
    (case l_18 => k_is)
    (case c_18 => k_is)
    (case k_18 => k_is)
    (case a_19 => k_is)
    (case l_19 => k_is)
    (case c_19 => k_is)
    (case k_19 => k_is)
    (case a_20 => k_is)
    (case l_20 => k_is)
    (case c_20 => k_is)
    (case k_20 => k_is)
    (case a_21 => k_is)
    (case l_21 => k_is)
    (case c_21 => k_is)
    (case k_21 => k_is)
    (case a_22 => k_is)
    (case l_22 => k_is)
    (case c_22 => k_is)
    (case k_22 => k_is)
    (case z_dict => k_is)
    (case z_int => k_is)
    (case z_isinstance => k_is)
    (case z_len => k_is)
    (case z_min => k_is)
    (case z_range => k_is)
    (case z_str => k_is)
    (case z_sum => k_is)
    (case z_tuple => k_is)
    (case z_zip => k_is)
    (case g_MOST_TURNS => k_is)
    (case g_SHELVES => k_is)
    (case g_SIZE => k_is)

