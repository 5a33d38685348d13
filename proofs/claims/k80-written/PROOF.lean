import PyProof.Rows.All
import HandS.TupSets
import HandS.Strs
import Wide.All
import OpenK.AllK
import Wide.FinOn
import HandS.ForMost
import HandS.ForExc
import HandS.TupAny
import HandS.TupMul
import HandS.Zip
import HandS.Conv
import HandS.IsInst
import HandS.SetKeys
import HandS.Flow
import HandS.Rev
import HandS.Deep
import HandS.NoneIn
import HandS.More
import HandS.Style
import HandS.ExcCtx
import KE.KDictZip
import KE.GoesZip
import KE.GoesMore
import KE.GoesEnum
import PyProof.DictUpdate
import HandS.Replace
import PyProof.WalksMore
import PyProof.SetRoads
import PyProof.ListStr
import KE.DatumOrd
import HandS.SortKw
import HandS.TryOnly
import KE.GoesComp
import HandS.ExcIs
import HandS.HotCalls
import HandS.Text
import HandS.ListItems
import HandS.RaiseMore
import PySem.Challenge.RW_shelfwork_k80_written
set_option Elab.async false
set_option linter.all false
set_option maxRecDepth 100000
set_option maxHeartbeats 1000000
namespace DL.KS
open PySem PySem.Spec PyProof.Rows L2
structure Kd (P : Program) (w : World) (K : Type) [DecidableEq K] where
  holds : Heap → K → Value → Prop
  code : K → Int
  calm : Around → Prop
  also : SetTable → List Int → Prop
  one : ∀ {h : Heap} {x y : K} {v : Value}, holds h x v → holds h y v → x = y
  stay : ∀ {h h' : Heap} {k : K} {v : Value}, holds h k v → (∀ b o, h.get? b = some o → o.cls = .type "tuple" → h'.get? b = some o) → holds h' k v
variable {P : Program} {w : World} {K : Type} [DecidableEq K]
def Kd.row (κ : Kd P w K) (p : Value × K) : Int × Value := (κ.code p.2, p.1)
structure Holds (κ : Kd P w K) (h : Heap) (a : Addr) (L : List (Value × K)) (o : Obj) (es : Array (Int × Value)) (ep : Nat) (t : SetTable) : Prop where
  at_ : h.get? a = some o
  exact_ : o.ExactSet
  dat : o.data = .set es ep t
  rows : es.toList = L.map κ.row
  alone : (L.map Prod.snd).Nodup
  mem : ∀ p ∈ L, κ.holds h p.2 p.1
  fit : t.fits es.size = true
  up : Ris t.place.toList
  lead : w.params.followText "set-order" = true ∨ t.led = true
  few : L.length < 64
  also : κ.also t (L.map fun p => κ.code p.2)
def SetAt (κ : Kd P w K) (h : Heap) (a : Addr) (L : List (Value × K)) : Prop := ∃ o es ep t, Holds κ h a L o es ep t
def Takes (κ : Kd P w K) : Prop := ∀ {A : Around} {E : Value → Shared → Prop} {s : Shared} {a : Addr} {x : Value} {k : K} {L : List (Value × K)} {Q : Bool → Shared → Prop},
  κ.calm A → κ.holds s.heap k x → SetAt κ s.heap a L → (k ∉ L.map Prod.snd → L.length + 1 < 64) →
  (∀ b h' tk L', s.toks ≤ tk → Heap.SameBut a s.heap h' → SetAt κ h' a L' → (k ∈ L.map Prod.snd → L' = L) → (k ∉ L.map Prod.snd → L'.Perm ((x, k) :: L)) → Q b { s with heap := h', toks := tk }) →
  wpAny (model P w) A (setAdd a x) Q E s
section
end
end DL.KS
namespace DL.KS
open PySem PySem.Spec PyProof.Rows L2
section
end
end DL.KS
namespace DL.KS
open PySem PySem.Spec PyProof.Rows L2
section
end
end DL.KS
namespace DL.KS
open PySem PySem.Spec PyProof.Rows L2
variable {P : Program} {w : World} {K : Type} [DecidableEq K] {κ : Kd P w K}
structure Has (κs : List (Value × K)) (i : Nat) (L : List (Value × K)) : Prop where
  from_ : ∀ p ∈ L, p ∈ κs.take i
  all : ∀ p ∈ κs.take i, p.2 ∈ L.map Prod.snd
theorem take_one_more {α : Type} {l : List α} {i : Nat} {x : α} (h : l[i]? = some x) {y : α} : y ∈ l.take (i + 1) ↔ y ∈ l.take i ∨ y = x := by
  rw [take_next h, List.mem_append, List.mem_singleton]
theorem Has.next {κs L L' : List (Value × K)} {i : Nat} {x : Value × K} (g : Has κs i L) (h : κs[i]? = some x) (c1 : x.2 ∈ L.map Prod.snd → L' = L) (c2 : x.2 ∉ L.map Prod.snd → L'.Perm (x :: L)) : Has κs (i + 1) L' := by
  by_cases c : x.2 ∈ L.map Prod.snd
  · rw [c1 c]
    refine ⟨fun p hp => (take_one_more h).mpr (.inl (g.from_ p hp)), fun p hp => ?_⟩
    rcases (take_one_more h).mp hp with z | rfl
    · exact g.all p z
    · exact c
  · have pm := c2 c
    refine ⟨fun p hp => (take_one_more h).mpr ?_, fun p hp => (pm.map Prod.snd).mem_iff.mpr ?_⟩
    · rcases List.mem_cons.mp (pm.mem_iff.mp hp) with z | z
      · exact .inr z
      · exact .inl (g.from_ p z)
    · rw [List.map_cons]
      rcases (take_one_more h).mp hp with z | rfl
      · exact List.mem_cons_of_mem _ (g.all p z)
      · exact List.mem_cons_self
section
end
end DL.KS
namespace DL.KS
open PySem PySem.Spec PyProof.Rows L2
variable {P : Program} {w : World} {K : Type} [DecidableEq K] {κ : Kd P w K}
structure Ord (lt : K → K → Bool) : Prop where
  irr : ∀ a, lt a a = false
  trans : ∀ a b c, lt a b = true → lt b c = true → lt a c = true
  tri : ∀ a b, lt a b = true ∨ a = b ∨ lt b a = true
section
end
end DL.KS
namespace DL.KS
open PySem PySem.Spec PyProof.Rows L2
variable {P : Program} {w : World} {K : Type} [DecidableEq K]
def kV (knd : PySem.KeyKind P w K) : Kd P w K where
  holds _ k v := knd.is k v = true
  code := knd.hash
  calm _ := True
  also _ _ := True
  one := fun h g => knd.inj _ _ _ h g
  stay := fun h _ => h
section
end
def sLt (a b : Str) : Bool := decide (a.cps.toList < b.cps.toList)
theorem ord_str : Ord sLt where
  irr a := by unfold sLt; simpa using List.lt_irrefl a.cps.toList
  trans a b c h g := by
    unfold sLt at *
    rw [decide_eq_true_eq] at *
    exact List.lt_trans h g
  tri a b := by
    unfold sLt
    rw [decide_eq_true_eq, decide_eq_true_eq]
    by_cases h : a.cps.toList < b.cps.toList
    · exact .inl h
    by_cases g : b.cps.toList < a.cps.toList
    · exact .inr (.inr g)
    have e := List.le_antisymm (List.not_lt.mp g) (List.not_lt.mp h)
    refine .inr (.inl ?_)
    cases a; cases b
    exact congrArg Str.mk (Array.toList_inj.mp e)
def tLt : List Str → List Str → Bool
  | [], [] => false
  | [], _ :: _ => true
  | _ :: _, [] => false
  | a :: r, b :: q => if a = b then tLt r q else sLt a b
theorem tLt_irr : ∀ a, tLt a a = false
  | [] => rfl
  | a :: r => by rw [tLt, if_pos rfl]; exact tLt_irr r
theorem tLt_trans : ∀ a b c, tLt a b = true → tLt b c = true → tLt a c = true
  | [], [], _, h, _ => by cases h
  | [], _ :: _, [], _, g => by cases g
  | [], _ :: _, _ :: _, _, _ => rfl
  | _ :: _, [], _, h, _ => by cases h
  | _ :: _, _ :: _, [], _, g => by cases g
  | a :: r, b :: q, c :: p, h, g => by
    rw [tLt] at h g ⊢
    by_cases e : a = b
    · subst e
      rw [if_pos rfl] at h
      by_cases f : a = c
      · rw [if_pos f] at g ⊢; exact tLt_trans r q p h g
      · rw [if_neg f] at g ⊢; exact g
    · rw [if_neg e] at h
      by_cases f : b = c
      · subst f
        rw [if_neg e]; exact h
      · rw [if_neg f] at g
        have z := ord_str.trans _ _ _ h g
        rw [if_neg]
        · exact z
        · intro y
          subst y
          rw [ord_str.irr] at z
          cases z
theorem tLt_tri : ∀ a b, tLt a b = true ∨ a = b ∨ tLt b a = true
  | [], [] => .inr (.inl rfl)
  | [], _ :: _ => .inl rfl
  | _ :: _, [] => .inr (.inr rfl)
  | a :: r, b :: q => by
    rw [tLt, tLt]
    by_cases e : a = b
    · subst e
      rw [if_pos rfl, if_pos rfl]
      rcases tLt_tri r q with h | h | h
      · exact .inl h
      · exact .inr (.inl (by rw [h]))
      · exact .inr (.inr h)
    · rw [if_neg e, if_neg fun z => e z.symm]
      rcases ord_str.tri a b with h | h | h
      · exact .inl h
      · exact absurd h e
      · exact .inr (.inr h)
theorem ord_tup : Ord tLt := ⟨tLt_irr, tLt_trans, tLt_tri⟩
section
end
end DL.KS
namespace DL
open PySem L2
inductive D where
  | non | bl (b : Bool) | int (i : Int) | str (s : Str) | tup (ds : List D) | seq (ds : List D) | ref (n : Nat)
inductive O where
  | lst (ds : List D)
  | dct (kvs : List (Key × D))
  | ins (c : Str) (fs : List (Str × D))
  | st (ds : List D)
abbrev Sto := List O
inductive R (α : Type) where
  | ok (a : α) (S : Sto)
  | exc (c : Str) (S : Sto)
  | bad
def R.bind {α β : Type} : R α → (α → Sto → R β) → R β
  | .ok a S, k => k a S
  | .exc c S, _ => .exc c S
  | .bad, _ => .bad
@[simp] theorem R.bind_ok {α β : Type} (a : α) (S : Sto) (k : α → Sto → R β) : (R.ok a S).bind k = k a S := rfl
@[simp] theorem R.bind_exc {α β : Type} (c : Str) (S : Sto) (k : α → Sto → R β) : (R.exc c S : R α).bind k = .exc c S := rfl
@[simp] theorem R.bind_bad {α β : Type} (k : α → Sto → R β) : (R.bad : R α).bind k = .bad := rfl
theorem R.bind_assoc {α β γ : Type} (r : R α) (k : α → Sto → R β) (l : β → Sto → R γ) : (r.bind k).bind l = r.bind fun a S => (k a S).bind l := by
  cases r <;> rfl
structure Gc where
  K : PySem.W.Frag
  cA : Str → Option Addr
  xA : Str → Option Addr
def KL (K : PySem.W.Frag) (a : Addr) (xs : List V) : Prop :=
  ∃ (o : Obj) (its : Array Value) (n : Nat), K.lookup a = some o ∧ o.cls = .type "list" ∧ o.dict = none ∧ o.data = .seq its n ∧ its.size ≤ sizeLine ∧ Vals xs its.toList
def TupA (μ : List Addr) (H : Hp) (a : Addr) (xs : List V) : Prop := a ∉ μ ∧ Rd H a (.tup xs)
def BareA (H : Hp) (a : Addr) (xs : List V) : Prop := ∃ o, H a = some (.frz o (.tup xs)) ∧ o.dict = none
def txts : List D → Bool
  | [] => true
  | .str _ :: r => txts r
  | _ :: _ => false
def LstA (K : PySem.W.Frag) (μ : List Addr) (H : Hp) (a : Addr) (xs : List V) : Prop := (a ∉ μ ∧ ∃ o, H a = some (.frz o (.lst xs))) ∨ KL K a xs
theorem TupA.sq {K : PySem.W.Frag} {μ : List Addr} {H : Hp} {a : Addr} {xs : List V} (h : TupA μ H a xs) : SqT K H a xs := .inl h.2
theorem LstA.sq {K : PySem.W.Frag} {μ : List Addr} {H : Hp} {a : Addr} {xs : List V} (h : LstA K μ H a xs) : SqL K H a xs := h.elim (fun h => .inl (.inr h.2)) .inr
theorem LstA.of {K : PySem.W.Frag} {H : Hp} {a : Addr} {xs : List V} (hO : Only H) (h : SqL K H a xs) : LstA K [] H a xs := by
  rcases h with (h | h) | h
  · rcases hO a with z | ⟨o, ys, z⟩
    · rw [z] at h; cases h
    · rw [z] at h; cases h
  · exact .inl ⟨by simp, h⟩
  · exact .inr h
structure Gr (μ : List Addr) (H : Hp) (μ' : List Addr) (H' : Hp) : Prop where
  pre : ∃ ν, μ' = μ ++ ν ∧ ∀ a ∈ ν, H a = none
  keep : ∀ a o, a ∉ μ → H a = some o → H' a = some o
  live : ∀ a, H' a = none → H a = none
theorem Gr.refl {μ : List Addr} {H : Hp} : Gr μ H μ H := ⟨⟨[], by simp, by simp⟩, fun _ _ _ h => h, fun _ h => h⟩
theorem Gr.notin {μ μ' : List Addr} {H H' : Hp} (g : Gr μ H μ' H') {a : Addr} {o : HO} (h : H a = some o) (n : a ∉ μ) : a ∉ μ' := by
  obtain ⟨ν, e, hn⟩ := g.pre
  rw [e]
  intro m
  rcases List.mem_append.mp m with m | m
  · exact n m
  · rw [hn a m] at h
    cases h
theorem Gr.trans {μ μ1 μ2 : List Addr} {H H1 H2 : Hp} (a : Gr μ H μ1 H1) (b : Gr μ1 H1 μ2 H2) : Gr μ H μ2 H2 := by
  refine ⟨?_, fun c o n h => b.keep c o (a.notin h n) (a.keep c o n h), fun c h => a.live c (b.live c h)⟩
  obtain ⟨ν, e, hn⟩ := a.pre
  obtain ⟨ν', e', hn'⟩ := b.pre
  refine ⟨ν ++ ν', by rw [e', e, List.append_assoc], fun c m => ?_⟩
  rcases List.mem_append.mp m with m | m
  · exact hn c m
  · exact a.live c (hn' c m)
def imm : HO → Bool
  | .tup _ => true
  | .frz _ _ => true
  | _ => false
structure Gi (μ : List Addr) (H : Hp) (μ' : List Addr) (H' : Hp) : Prop where
  pre : ∃ ν, μ' = μ ++ ν ∧ ∀ a ∈ ν, ∀ o, H a = some o → imm o = false
  keep : ∀ a o, a ∉ μ → H a = some o → imm o = true → H' a = some o
theorem Gr.i {μ μ' : List Addr} {H H' : Hp} (g : Gr μ H μ' H') : Gi μ H μ' H' := by
  obtain ⟨ν, e, hn⟩ := g.pre
  exact ⟨⟨ν, e, fun a m o h => by rw [hn a m] at h; cases h⟩, fun a o n h _ => g.keep a o n h⟩
theorem Gi.notin {μ μ' : List Addr} {H H' : Hp} (g : Gi μ H μ' H') {a : Addr} {o : HO} (h : H a = some o) (i : imm o = true) (n : a ∉ μ) : a ∉ μ' := by
  obtain ⟨ν, e, hn⟩ := g.pre
  rw [e]
  intro m
  rcases List.mem_append.mp m with m | m
  · exact n m
  · rw [hn a m o h] at i
    cases i
theorem Gi.get {μ μ' : List Addr} {H H' : Hp} (g : Gi μ H μ' H') {n : Nat} {a : Addr} (h : μ[n]? = some a) : μ'[n]? = some a := by
  obtain ⟨ν, e, _⟩ := g.pre
  rw [e, List.getElem?_append_left (List.getElem?_eq_some_iff.mp h).1]
  exact h
theorem TupA.monoI {μ μ' : List Addr} {H H' : Hp} (g : Gi μ H μ' H') {a : Addr} {xs : List V} (h : TupA μ H a xs) : TupA μ' H' a xs :=
  h.2.elim (fun e => ⟨g.notin e rfl h.1, .inl (g.keep _ _ h.1 e rfl)⟩) fun ⟨o, e⟩ => ⟨g.notin e rfl h.1, .inr ⟨o, g.keep _ _ h.1 e rfl⟩⟩
theorem BareA.monoI {μ μ' : List Addr} {H H' : Hp} (g : Gi μ H μ' H') {a : Addr} {xs : List V} (n : a ∉ μ) : BareA H a xs → BareA H' a xs := fun ⟨o, e, d⟩ => ⟨o, g.keep _ _ n e rfl, d⟩
theorem LstA.monoI {K : PySem.W.Frag} {μ μ' : List Addr} {H H' : Hp} (g : Gi μ H μ' H') {a : Addr} {xs : List V} (h : LstA K μ H a xs) : LstA K μ' H' a xs :=
  h.elim (fun ⟨n, o, h⟩ => .inl ⟨g.notin h rfl n, o, g.keep _ _ n h rfl⟩) .inr
theorem Gr.get {μ μ' : List Addr} {H H' : Hp} (g : Gr μ H μ' H') {n : Nat} {a : Addr} (h : μ[n]? = some a) : μ'[n]? = some a := by
  obtain ⟨ν, e, _⟩ := g.pre
  rw [e, List.getElem?_append_left (List.getElem?_eq_some_iff.mp h).1]
  exact h
theorem Gr.new {μ : List Addr} {H : Hp} {p : Addr} {o : HO} (h : H p = none) : Gr μ H μ (upd H p o) := by
  refine ⟨⟨[], by simp, by simp⟩, fun a u _ e => ?_, fun a e => ?_⟩
  · rw [upd_ne (ne_of_none e h)]
    exact e
  · by_cases q : a = p
    · rw [q]
      exact h
    · rw [upd_ne q] at e
      exact e
theorem Gr.obj {μ : List Addr} {H : Hp} {p : Addr} {o : HO} (h : H p = none) : Gr μ H (μ ++ [p]) (upd H p o) := by
  refine ⟨⟨[p], rfl, fun a m => by rw [List.mem_singleton.mp m]; exact h⟩, (Gr.new h).keep, (Gr.new (μ := μ) h).live⟩
theorem Gr.write {μ : List Addr} {H : Hp} {p : Addr} {o : HO} (h : p ∈ μ) : Gr μ H μ (upd H p o) := by
  refine ⟨⟨[], by simp, by simp⟩, fun a u n e => ?_, fun a e => ?_⟩
  · rw [upd_ne fun q : a = p => n (by rw [q]; exact h)]
    exact e
  · by_cases q : a = p
    · rw [q, upd_same] at e
      cases e
    · rw [upd_ne q] at e
      exact e
mutual
inductive RV (K : PySem.W.Frag) (μ : List Addr) (H : Hp) : V → D → Prop
  | non : RV K μ H .non .non
  | bl (b : Bool) : RV K μ H (.bl b) (.bl b)
  | int (i : Int) : RV K μ H (.int i) (.int i)
  | str (x : Str) : RV K μ H (.str x) (.str x)
  | tup {a : Addr} {xs : List V} {ds : List D} : TupA μ H a xs → (txts ds = true → BareA H a xs) → RVs K μ H xs ds → RV K μ H (.ref a) (.tup ds)
  | seq {a : Addr} {xs : List V} {ds : List D} : LstA K μ H a xs → RVs K μ H xs ds → RV K μ H (.ref a) (.seq ds)
  | ref {n : Nat} {a : Addr} : μ[n]? = some a → RV K μ H (.ref a) (.ref n)
inductive RVs (K : PySem.W.Frag) (μ : List Addr) (H : Hp) : List V → List D → Prop
  | nil : RVs K μ H [] []
  | cons {v : V} {vs : List V} {d : D} {ds : List D} : RV K μ H v d → RVs K μ H vs ds → RVs K μ H (v :: vs) (d :: ds)
end
section
variable {K : PySem.W.Frag} {μ μ' : List Addr} {H H' : Hp}
mutual
theorem RV.monoI (g : Gi μ H μ' H') : ∀ {v : V} {d : D}, RV K μ H v d → RV K μ' H' v d
  | _, _, .non => .non
  | _, _, .bl b => .bl b
  | _, _, .int i => .int i
  | _, _, .str x => .str x
  | _, _, .tup t b r => .tup (t.monoI g) (fun e => (b e).monoI g t.1) (RVs.monoI g r)
  | _, _, .seq t r => .seq (t.monoI g) (RVs.monoI g r)
  | _, _, .ref e => .ref (g.get e)
theorem RVs.monoI (g : Gi μ H μ' H') : ∀ {vs : List V} {ds : List D}, RVs K μ H vs ds → RVs K μ' H' vs ds
  | _, _, .nil => .nil
  | _, _, .cons h t => .cons (RV.monoI g h) (RVs.monoI g t)
end
theorem RV.mono (g : Gr μ H μ' H') {v : V} {d : D} (h : RV K μ H v d) : RV K μ' H' v d := h.monoI g.i
theorem RVs.mono (g : Gr μ H μ' H') {vs : List V} {ds : List D} (h : RVs K μ H vs ds) : RVs K μ' H' vs ds := h.monoI g.i
theorem RVs.length : ∀ {vs : List V} {ds : List D}, RVs K μ H vs ds → vs.length = ds.length
  | _, _, .nil => rfl
  | _, _, .cons _ t => congrArg (· + 1) (RVs.length t)
theorem RVs.get : ∀ {vs : List V} {ds : List D} {i : Nat} {d : D}, RVs K μ H vs ds → ds[i]? = some d → ∃ v, vs[i]? = some v ∧ RV K μ H v d
  | _, _, _, _, .nil, e => by simp at e
  | _, _, 0, _, .cons h _, e => by simp at e; subst e; exact ⟨_, rfl, h⟩
  | _, _, i + 1, d, .cons _ t, e => by
    obtain ⟨v, h1, h2⟩ := RVs.get (i := i) (d := d) t (by simpa using e)
    exact ⟨v, by simpa using h1, h2⟩
theorem RVs.at : ∀ {vs : List V} {ds : List D} {i : Nat} {v : V}, RVs K μ H vs ds → vs[i]? = some v → ∃ d, ds[i]? = some d ∧ RV K μ H v d
  | _, _, _, _, .nil, e => by simp at e
  | _, _, 0, _, .cons h _, e => by simp at e; subst e; exact ⟨_, rfl, h⟩
  | _, _, i + 1, d, .cons _ t, e => by
    obtain ⟨v, h1, h2⟩ := RVs.at (i := i) (v := d) t (by simpa using e)
    exact ⟨v, by simpa using h1, h2⟩
theorem RVs.append : ∀ {vs ws : List V} {ds es : List D}, RVs K μ H vs ds → RVs K μ H ws es → RVs K μ H (vs ++ ws) (ds ++ es)
  | _, _, _, _, .nil, s => s
  | _, _, _, _, .cons h t, s => .cons h (RVs.append t s)
theorem RVs.take : ∀ {vs : List V} {ds : List D} (n : Nat), RVs K μ H vs ds → RVs K μ H (vs.take n) (ds.take n)
  | _, _, 0, _ => by rw [List.take_zero, List.take_zero]; exact .nil
  | _, _, _ + 1, .nil => .nil
  | _, _, n + 1, .cons h t => .cons h (RVs.take n t)
theorem RVs.drop : ∀ {vs : List V} {ds : List D} (n : Nat), RVs K μ H vs ds → RVs K μ H (vs.drop n) (ds.drop n)
  | _, _, 0, r => r
  | _, _, _ + 1, .nil => .nil
  | _, _, n + 1, .cons _ t => RVs.drop n t
theorem RVs.set {v : V} {d : D} (h : RV K μ H v d) : ∀ {vs : List V} {ds : List D} (n : Nat), RVs K μ H vs ds → RVs K μ H (vs.set n v) (ds.set n d)
  | _, _, _, .nil => .nil
  | _, _, 0, .cons _ t => .cons h t
  | _, _, n + 1, .cons q t => .cons q (RVs.set h n t)
theorem RVs.rep {vs : List V} {ds : List D} (h : RVs K μ H vs ds) : ∀ n : Nat, RVs K μ H (List.replicate n vs).flatten (List.replicate n ds).flatten
  | 0 => .nil
  | n + 1 => by
    rw [List.replicate_succ, List.replicate_succ, List.flatten_cons, List.flatten_cons]
    exact h.append (RVs.rep h n)
theorem RVs.ints : ∀ {vs : List V} {ns : List Int}, RVs K μ H vs (ns.map D.int) → vs = ns.map V.int
  | _, [], .nil => rfl
  | _, _ :: _, .cons (.int _) t => by rw [RVs.ints t]; rfl
theorem RVs.bls : ∀ {vs : List V} {ns : List Bool}, RVs K μ H vs (ns.map D.bl) → vs = ns.map V.bl
  | _, [], .nil => rfl
  | _, _ :: _, .cons (.bl _) t => by rw [RVs.bls t]; rfl
end
inductive RKs (K : PySem.W.Frag) (μ : List Addr) (H : Hp) {κ : Type} : List (κ × V) → List (κ × D) → Prop
  | nil : RKs K μ H [] []
  | cons {k : κ} {v : V} {vs : List (κ × V)} {d : D} {ds : List (κ × D)} : RV K μ H v d → RKs K μ H vs ds → RKs K μ H ((k, v) :: vs) ((k, d) :: ds)
theorem RKs.monoI {K : PySem.W.Frag} {μ μ' : List Addr} {H H' : Hp} {κ : Type} (g : Gi μ H μ' H') : ∀ {vs : List (κ × V)} {ds : List (κ × D)}, RKs K μ H vs ds → RKs K μ' H' vs ds
  | _, _, .nil => .nil
  | _, _, .cons h t => .cons (h.monoI g) (RKs.monoI g t)
theorem RKs.mono {K : PySem.W.Frag} {μ μ' : List Addr} {H H' : Hp} {κ : Type} (g : Gr μ H μ' H') {vs : List (κ × V)} {ds : List (κ × D)} (h : RKs K μ H vs ds) : RKs K μ' H' vs ds := h.monoI g.i
theorem RKs.length {K : PySem.W.Frag} {μ : List Addr} {H : Hp} {κ : Type} : ∀ {vs : List (κ × V)} {ds : List (κ × D)}, RKs K μ H vs ds → vs.length = ds.length
  | _, _, .nil => rfl
  | _, _, .cons _ t => congrArg (· + 1) (RKs.length t)
def RO (G : Gc) (μ : List Addr) (H : Hp) (a : Addr) : O → Prop
  | .lst ds => ∃ xs, H a = some (.lst xs) ∧ RVs G.K μ H xs ds
  | .dct ds => ∃ ws, H a = some (.dK ws) ∧ RKs G.K μ H ws ds
  | .ins c fs => ∃ C dx ws, G.cA c = some C ∧ H a = some (.ins C dx ws) ∧ RKs G.K μ H ws fs
  | .st _ => False
structure HS (G : Gc) (μ : List Addr) (S : Sto) (H : Hp) : Prop where
  len : μ.length = S.length
  nd : μ.Nodup
  at_ : ∀ (n : Nat) (a : Addr) (o : O), μ[n]? = some a → S[n]? = some o → RO G μ H a o
section
variable {G : Gc} {μ μ' : List Addr} {S S' : Sto} {H H' : Hp}
theorem HS.there (h : HS G μ S H) {n : Nat} {a : Addr} (e : μ[n]? = some a) : ∃ o, S[n]? = some o ∧ RO G μ H a o := by
  have hn : n < μ.length := (List.getElem?_eq_some_iff.mp e).1
  have hs : n < S.length := by rw [← h.len]; exact hn
  exact ⟨S[n], List.getElem?_eq_getElem hs, h.at_ n a _ e (List.getElem?_eq_getElem hs)⟩
theorem RO.some {a : Addr} {o : O} (h : RO G μ H a o) : ∃ u, H a = some u := by
  cases o with
  | lst ds => obtain ⟨_, h, _⟩ := h; exact ⟨_, h⟩
  | dct ds => obtain ⟨_, h, _⟩ := h; exact ⟨_, h⟩
  | ins c fs => obtain ⟨_, _, _, _, h, _⟩ := h; exact ⟨_, h⟩
  | st ds => exact h.elim
theorem HS.mem (h : HS G μ S H) {a : Addr} (m : a ∈ μ) : ∃ u, H a = some u := by
  obtain ⟨n, e⟩ := List.getElem?_of_mem m
  obtain ⟨o, _, r⟩ := h.there e
  exact r.some
theorem HS.fresh (h : HS G μ S H) {a : Addr} (e : H a = none) : a ∉ μ := fun m => by
  obtain ⟨u, q⟩ := h.mem m
  rw [e] at q
  cases q
theorem RO.keepI (g : Gi μ H μ' H') {a : Addr} {o : O} (e : H' a = H a) (h : RO G μ H a o) : RO G μ' H' a o := by
  cases o with
  | lst ds => obtain ⟨xs, h, r⟩ := h; exact ⟨xs, e.trans h, r.monoI g⟩
  | dct ds => obtain ⟨xs, h, r⟩ := h; exact ⟨xs, e.trans h, r.monoI g⟩
  | ins c fs => obtain ⟨C, dx, ws, hc, h, r⟩ := h; exact ⟨C, dx, ws, hc, e.trans h, r.monoI g⟩
  | st ds => exact h
theorem RO.keep (g : Gr μ H μ' H') {a : Addr} {o : O} (e : H' a = H a) (h : RO G μ H a o) : RO G μ' H' a o := h.keepI g.i e
theorem HS.beside (h : HS G μ S H) {p : Addr} {u : HO} (hp : H p = none) : HS G μ S (upd H p u) := by
  refine ⟨h.len, h.nd, fun n a o e1 e2 => ?_⟩
  have r := h.at_ n a o e1 e2
  obtain ⟨v, hv⟩ := r.some
  exact r.keep (Gr.new hp) (upd_ne (ne_of_none hv hp))
theorem HS.grow (h : HS G μ S H) {p : Addr} {u : HO} {o : O} (hp : H p = none) (r : RO G (μ ++ [p]) (upd H p u) p o) : HS G (μ ++ [p]) (S ++ [o]) (upd H p u) := by
  refine ⟨by simp [h.len], ?_, fun n a o' e1 e2 => ?_⟩
  · rw [List.nodup_append]
    refine ⟨h.nd, by simp, fun a m b m' => ?_⟩
    rw [List.mem_singleton.mp m']
    rintro rfl
    exact h.fresh hp m
  · by_cases hn : n < μ.length
    · rw [List.getElem?_append_left hn] at e1
      rw [List.getElem?_append_left (by rw [← h.len]; exact hn)] at e2
      have r := h.at_ n a o' e1 e2
      obtain ⟨v, hv⟩ := r.some
      exact r.keep (Gr.obj hp) (upd_ne (ne_of_none hv hp))
    · have hn : μ.length ≤ n := Nat.le_of_not_lt hn
      rw [List.getElem?_append_right hn] at e1
      rw [List.getElem?_append_right (by rw [← h.len]; exact hn)] at e2
      have e0 : n - μ.length = 0 := by
        cases q : n - μ.length with
        | zero => rfl
        | succ m => rw [q] at e1; simp at e1
      rw [e0] at e1
      rw [← h.len, e0] at e2
      simp at e1 e2
      subst e1 e2
      exact r
theorem HS.last (h : HS G μ S H) {p : Addr} : (μ ++ [p])[S.length]? = some p := by
  rw [← h.len, List.getElem?_append_right (Nat.le_refl _)]
  simp
theorem HS.put (h : HS G μ S H) {n : Nat} {p : Addr} {u : HO} {o : O} (e : μ[n]? = some p) (r : RO G μ (upd H p u) p o) : HS G μ (S.set n o) (upd H p u) := by
  have hn : n < μ.length := (List.getElem?_eq_some_iff.mp e).1
  have hm : p ∈ μ := List.mem_of_getElem? e
  refine ⟨by simp [h.len], h.nd, fun m a o' e1 e2 => ?_⟩
  by_cases hmn : n = m
  · subst hmn
    rw [e] at e1
    cases e1
    rw [List.getElem?_set_self (by rw [← h.len]; exact hn)] at e2
    cases e2
    exact r
  · rw [List.getElem?_set_ne hmn] at e2
    have r' := h.at_ m a o' e1 e2
    refine r'.keep (Gr.write hm) (upd_ne fun q => hmn ?_)
    subst q
    exact nd_ix h.nd e e1
end
section
variable {G : Gc} {μ μ1 : List Addr} {S : Sto} {H H1 : Hp} {p : Addr} {xs ys : List V}
theorem Gi.aside (hp : H p = some (.lst xs)) : Gi μ H μ (upd H p (.lst ys)) := by
  refine ⟨⟨[], by simp, by simp⟩, fun a o n h i => ?_⟩
  rw [upd_ne]
  · exact h
  · rintro rfl
    rw [hp] at h
    cases h
    cases i
theorem HS.aside (h : HS G μ S H) (hp : H p = some (.lst xs)) (n : p ∉ μ) : HS G μ S (upd H p (.lst ys)) :=
  ⟨h.len, h.nd, fun m a o e1 e2 => (h.at_ m a o e1 e2).keepI (Gi.aside hp) (upd_ne fun q => n (by rw [← q]; exact List.mem_of_getElem? e1))⟩
theorem Gr.aside (g : Gr μ1 H1 μ H) (h1 : H1 p = none) {o : HO} : Gr μ1 H1 μ (upd H p o) := by
  refine ⟨g.pre, fun a u n e => ?_, fun a e => ?_⟩
  · rw [upd_ne (ne_of_none e h1)]
    exact g.keep a u n e
  · by_cases q : a = p
    · rw [q]
      exact h1
    · rw [upd_ne q] at e
      exact g.live a e
theorem Gi.join (hp : H p = some (.lst xs)) : Gi μ H (μ ++ [p]) H :=
  ⟨⟨[p], rfl, fun a m o e => by rw [List.mem_singleton.mp m, hp] at e; cases e; rfl⟩, fun _ _ _ h _ => h⟩
theorem Gr.join (g : Gr μ1 H1 μ H) (h1 : H1 p = none) : Gr μ1 H1 (μ ++ [p]) H := by
  obtain ⟨ν, e, hn⟩ := g.pre
  refine ⟨⟨ν ++ [p], by rw [e, List.append_assoc], fun a m => ?_⟩, g.keep, g.live⟩
  rcases List.mem_append.mp m with m | m
  · exact hn a m
  · rw [List.mem_singleton.mp m]
    exact h1
theorem HS.join (h : HS G μ S H) (hp : H p = some (.lst xs)) (n : p ∉ μ) {ds : List D} (r : RVs G.K μ H xs ds) : HS G (μ ++ [p]) (S ++ [.lst ds]) H := by
  refine ⟨by simp [h.len], ?_, fun m a o' e1 e2 => ?_⟩
  · rw [List.nodup_append]
    refine ⟨h.nd, by simp, fun a m b m' => ?_⟩
    rw [List.mem_singleton.mp m']
    rintro rfl
    exact n m
  · by_cases hn : m < μ.length
    · rw [List.getElem?_append_left hn] at e1
      rw [List.getElem?_append_left (by rw [← h.len]; exact hn)] at e2
      exact (h.at_ m a o' e1 e2).keepI (Gi.join hp) rfl
    · have hn : μ.length ≤ m := Nat.le_of_not_lt hn
      rw [List.getElem?_append_right hn] at e1
      rw [List.getElem?_append_right (by rw [← h.len]; exact hn)] at e2
      have e0 : m - μ.length = 0 := by
        cases q : m - μ.length with
        | zero => rfl
        | succ m => rw [q] at e1; simp at e1
      rw [e0] at e1
      rw [← h.len, e0] at e2
      simp at e1 e2
      subst e1 e2
      exact ⟨xs, hp, r.monoI (Gi.join hp)⟩
end
abbrev Env := List (Option D)
def SR (K : PySem.W.Frag) (μ : List Addr) (H : Hp) (σ : L2.St) (ε : Env) : Prop :=
  σ.length = ε.length ∧ ∀ (i : Nat) (d : D), ε[i]? = some (some d) → ∃ v, σ[i]? = some (some v) ∧ RV K μ H v d
section
variable {K : PySem.W.Frag} {μ μ' : List Addr} {H H' : Hp} {σ : L2.St} {ε : Env}
theorem SR.monoI (g : Gi μ H μ' H') (h : SR K μ H σ ε) : SR K μ' H' σ ε :=
  ⟨h.1, fun i d e => let ⟨v, e1, r⟩ := h.2 i d e; ⟨v, e1, r.monoI g⟩⟩
theorem SR.mono (g : Gr μ H μ' H') (h : SR K μ H σ ε) : SR K μ' H' σ ε := h.monoI g.i
theorem SR.set (h : SR K μ H σ ε) {v : V} {d : D} (r : RV K μ H v d) (i : Nat) : SR K μ H (σ.set i (some v)) (ε.set i (some d)) := by
  refine ⟨by simp [h.1], fun j e q => ?_⟩
  by_cases hi : i < ε.length
  · by_cases hj : i = j
    · subst hj
      rw [List.getElem?_set_self hi] at q
      cases q
      exact ⟨v, List.getElem?_set_self (by rw [h.1]; exact hi), r⟩
    · rw [List.getElem?_set_ne hj] at q
      obtain ⟨u, e1, r1⟩ := h.2 j e q
      exact ⟨u, by rw [List.getElem?_set_ne hj]; exact e1, r1⟩
  · have h1 : ε.set i (some d) = ε := List.set_eq_of_length_le (Nat.le_of_not_lt hi)
    have h2 : σ.set i (some v) = σ := List.set_eq_of_length_le (by rw [h.1]; exact Nat.le_of_not_lt hi)
    rw [h1] at q
    rw [h2]
    exact h.2 j e q
end
end DL
namespace DL
open PySem PySem.Spec L2
abbrev NewT (H : Hp) (xs : List V) (Q : VK) : Prop := ∀ (p : Addr) (o : Obj), H p = none → o.dict = none → Q (.ref p) (upd H p (.frz o (.tup xs)))
def tupO (its : Array Value) : Obj := { cls := .type "tuple", data := .seq its }
theorem ok_tupO {P : Program} {w : World} {H : Hp} {h : Heap} {a : Addr} {xs : List V} {its : List Value} (r : Vals xs its) (z : xs.length ≤ sizeLine) (e : h.get? a = some (tupO its.toArray)) : ObjOk P w H h a (.frz (tupO its.toArray) (.tup xs)) :=
  ⟨e, z, its, r, ⟨_, e, rfl, _, rfl⟩⟩
section
variable {X : Cx}
theorem new_tupO {pins : List (Addr × Obj)} {s : Shared} {σ : L2.St} {H : Hp} {xs : List V} {its : List Value} {Q : VK} {t' : Nat} (I : Inv X pins σ H s) (r : Vals xs its) (z : xs.length ≤ sizeLine) (q : NewT H xs Q) :
    EP X pins σ Q (.ref s.heap.objs.size) { s with heap := s.heap.push (tupO its.toArray), toks := t' } :=
  ⟨.ref s.heap.objs.size, upd H s.heap.objs.size (.frz (tupO its.toArray) (.tup xs)), I.laid (t' := t') (fun b ob e => Heap.get?_push_of_some _ e) (Nat.le_refl _) (ok_tupO r z (Heap.get?_push_size _ rfl)), rfl, q _ _ (I.hok.fresh (Nat.le_refl _)) rfl⟩
def tTupB (t : TA) : TE := fun σ H Q => t σ H fun xs H1 => xs.length ≤ sizeLine ∧ NewT H1 xs Q
theorem pe_tupB {es : List Expr} {t : TA} {k : Nat} {pos : Pos} (h : PA X es t) : PE X (.Tuple es k pos) (tTupB t) :=
  ⟨fun pins s σ H Q I hq => wpAny_Tuple_spliced (thn (h.run pos pins s σ H _ I hq) fun us s1 ⟨xs, H1, I1, r, z, q⟩ => ⟨by rw [← r.length]; exact z, new_tupO (t' := s1.toks) I1 r z q⟩)⟩
def rCatB (K : PySem.W.Frag) : R2 := fun x y H Q => ∃ a b xs ys, x = .ref a ∧ y = .ref b ∧ SqT K H a xs ∧ SqT K H b ys ∧ xs.length + ys.length ≤ sizeLine ∧
  (xs = [] → Q (.ref b) H) ∧ (xs ≠ [] → ys = [] → Q (.ref a) H) ∧ (xs ≠ [] → ys ≠ [] → NewT H (xs ++ ys) Q)
theorem op_catB : OpR X (binaryOp .Add) (rCatB X.K) := by
  intro pins s σ H x y v u Q I rx ry ⟨a, b, xs, ys, e1, e2, ha, hb, hz, q0, q1, q2⟩
  subst e1 e2
  by_cases hx : xs = []
  · exact op_catA pins s σ H _ _ v u Q I rx ry ⟨a, b, xs, ys, rfl, rfl, ha, hb, hz, q0, q1, fun n => absurd hx n⟩
  by_cases hy : ys = []
  · exact op_catA pins s σ H _ _ v u Q I rx ry ⟨a, b, xs, ys, rfl, rfl, ha, hb, hz, q0, q1, fun _ n => absurd hy n⟩
  cases rx
  cases ry
  obtain ⟨us, r1, t1, _⟩ := I.tuple ha
  obtain ⟨ws, r2, t2, _⟩ := I.tuple hb
  exact HT.cat_tup t1 t2 (fun z => hx (r1.nil_iff.mp z)) (fun z => absurd (r2.nil_iff.mp z) hy) (fun _ => new_tupO (t' := s.toks) I (r1.append r2) (by rw [List.length_append]; exact hz) (q2 hx hy)) (by rw [← r1.length, ← r2.length]; exact hz)
def rSlB (K : PySem.W.Frag) : V → Option Int → Option Int → Hp → VK → Prop := fun x lo hi H Q => ∃ a xs, x = .ref a ∧ SqT K H a xs ∧
  (HT.sIx xs.length 0 lo = 0 ∧ HT.sIx xs.length xs.length hi = xs.length → Q (.ref a) H) ∧ (¬ (HT.sIx xs.length 0 lo = 0 ∧ HT.sIx xs.length xs.length hi = xs.length) → NewT H (cutV xs lo hi) Q)
theorem sl_tupB : SlR X (rSlB X.K) := by
  intro pins s σ H x v vl vu lo hi sl Q I rx hs pl pu ⟨a, xs, e, hx, q1, q2⟩
  subst e
  by_cases hw : HT.sIx xs.length 0 lo = 0 ∧ HT.sIx xs.length xs.length hi = xs.length
  · exact sl_tupA pins s σ H _ v vl vu lo hi sl Q I rx hs pl pu ⟨a, xs, rfl, hx, q1, fun n => absurd hw n⟩
  · cases rx
    obtain ⟨us, r, t, hz⟩ := I.tuple hx
    have len : us.toArray.size = xs.length := by rw [List.size_toArray]; exact r.length.symm
    refine ⟨"tuple", _, PyProof.Rows.slot_tuple_getitem.lookup, t.typeIs, HT.getItem_tuple_cut t hs pl pu (by rw [len]; exact hw) ?_ (by rw [len]; exact hz)⟩
    rw [len]
    exact new_tupO (t' := s.toks) I ((r.drop (HT.sIx xs.length 0 lo)).take (HT.sIx xs.length xs.length hi - HT.sIx xs.length 0 lo)) (Nat.le_trans (cutV_length xs lo hi) hz) (q2 hw)
theorem call_tupleB : CallR X (.type "tuple") (fun xs H Q => ∃ p ys, xs = [.ref p] ∧ ((SqL X.K H p ys ∧ NewT H ys Q) ∨ (SqT X.K H p ys ∧ Q (.ref p) H))) := by
  intro pins s σ H xs us Q I r ⟨p, ys, e, h⟩
  rcases h with ⟨hq, q⟩ | h
  · subst e
    obtain ⟨u, rfl, rx⟩ := vals1 r
    cases rx
    obtain ⟨its, r', pl, hz⟩ := I.list hq
    have len := r'.length
    exact call_tuple_list pl.isList (fun h' kp => new_tupO (s := { s with heap := h' }) (t' := s.toks) (I.kept (t' := s.toks) kp) r' hz q) (by simp only [List.size_toArray] <;> omega)
  · exact call_tuple_of pins s σ H xs us Q I r ⟨p, ys, e, .inr h⟩
def rRepB (K : PySem.W.Frag) : R2 := fun x y H Q => ∃ l k xs, x = .ref l ∧ y = .int k ∧ SqT K H l xs ∧ xs ≠ [] ∧ 2 ≤ k ∧ k ≤ 1000 ∧ xs.length ≤ 1000 ∧ NewT H (List.replicate k.toNat xs).flatten Q
theorem op_repB : OpR X (binaryOp .Mult) (rRepB X.K) := by
  intro pins s σ H x y v u Q I rx ry ⟨l, k, xs, e1, e2, hT, ne, k2, k1000, few, q⟩
  subst e1 e2
  cases rx
  obtain ⟨tk, rfl⟩ := ry
  obtain ⟨us, r, ⟨⟨cls, dd, data, sl⟩, at_, hc, n, hd⟩, _⟩ := I.tuple hT
  obtain rfl : cls = .type "tuple" := hc
  obtain rfl : data = .seq us.toArray n := hd
  have len : us.toArray.size = xs.length := by rw [List.size_toArray, ← r.length]
  have pos : 0 < xs.length := List.length_pos_iff.mpr ne
  have emp : us.toArray.isEmpty = false := by
    rw [Array.isEmpty_eq_false_iff_exists_mem]
    have : 0 < us.toArray.size := by omega
    exact ⟨us.toArray[0], Array.getElem_mem this⟩
  have prod : ((us.toArray.size : Nat) : Int) * k ≤ 1000000 := by
    rw [len]
    have : ((xs.length : Nat) : Int) * k ≤ 1000 * k := Int.mul_le_mul_of_nonneg_right (by omega) (by omega)
    omega
  have prodN : k.toNat * xs.length ≤ 1000 * 1000 := Nat.mul_le_mul (by omega) few
  have flat : ((List.replicate k.toNat us).flatten).length ≤ sizeLine := by
    rw [PyProof.Rows.lm_len_rep_flat, ← r.length, sizeLine_eq]
    omega
  have g0 : (decide (k < -(2 ^ 63)) || decide (k ≥ 2 ^ 63)) = false := by rw [Bool.or_eq_false_iff, decide_eq_false_iff_not, decide_eq_false_iff_not]; omega
  have g1 : (us.toArray.isEmpty || k == 1) = false := by rw [emp, Bool.false_or, beq_eq_false_iff_ne]; omega
  have g2 : (decide (k ≤ 0) || us.toArray.isEmpty) = false := by rw [emp, Bool.or_false, decide_eq_false_iff_not]; omega
  have g3 : Builtin.Tuple.tupleTooMany (((us.toArray.size : Nat) : Int) * k) = false := by
    unfold Builtin.Tuple.tupleTooMany
    rw [sizeLine_eq, decide_eq_false_iff_not]
    omega
  refine wpAny_binaryOp_repeat_ref (T := "tuple") (U := "int") (by decide) ⟨_, at_, rfl⟩ (fun z => typeIs_int z k tk) noFill_tuple_mul F.fills_int_mul F.slot_int_rmul repeat_tuple F.slot_int_index.lookup
    (call_meets F.slot_int_rmul (typeIs_int s k tk) F.entry_int_rmul (F.args_int_rmul_2 _ _) (int_rmul_tuple k tk l us.toArray n dd sl)
      ⟨at_, rfl, ⟨_, at_, rfl⟩, call_meets F.slot_tuple_mul ⟨_, at_, rfl⟩ F.entry_tuple_mul (F.args_tuple_mul_2 _ _)
        (tuple_mulW l us.toArray n dd sl k tk g0 g1 g2 (by omega) g3 (by rw [size_rep, List.size_toArray]; exact flat)) ⟨at_, ?_⟩⟩)
  rw [size_rep]
  exact new_tupO (t' := s.toks) I (r.rep k.toNat) (by rw [PyProof.Rows.lm_len_rep_flat, sizeLine_eq]; omega) q
end
end DL
namespace DL
open PySem L2
structure Gt where
  cA : Str → Option Addr
  xA : Str → Option Addr
abbrev gx (X : Cx) (T : Gt) : Gc := ⟨X.K, T.cA, T.xA⟩
def wR {α β : Type} (G : Gc) (W : WX) (Rl : List Addr → Hp → β → α → Prop) (r : R α) (σ : L2.St) (μ : List Addr) (H : Hp) (Q : β → Hp → Prop) : Prop :=
  match r with
  | .ok d S' => ∀ v μ' H', Gr μ H μ' H' → HS G μ' S' H' → Rl μ' H' v d → Q v H'
  | .exc c S' => ∀ C μ' H', G.xA c = some C → Gr μ H μ' H' → HS G μ' S' H' → W (.ref C) none σ H'
  | .bad => False
section
variable {α β γ δ : Type} {G : Gc} {W : WX} {Rl : List Addr → Hp → β → α → Prop} {Rl' : List Addr → Hp → δ → γ → Prop} {σ : L2.St} {ε : Env} {μ μ1 : List Addr} {H H1 : Hp} {S : Sto}
theorem wR.up {r : R α} {Q : β → Hp → Prop} (g : Gr μ H μ1 H1) (h : wR G W Rl r σ μ H Q) : wR G W Rl r σ μ1 H1 Q := by
  cases r with
  | ok d S' => exact fun v μ' H' g' hs rl => h v μ' H' (g.trans g') hs rl
  | exc c S' => exact fun C μ' H' e g' hs => h C μ' H' e (g.trans g') hs
  | bad => exact h
theorem wR.imp {r : R α} {Q Q' : β → Hp → Prop} (h : wR G W Rl r σ μ H Q) (q : ∀ v H', Q v H' → Q' v H') : wR G W Rl r σ μ H Q' := by
  cases r with
  | ok d S' => exact fun v μ' H' g' hs rl => q _ _ (h v μ' H' g' hs rl)
  | exc c S' => exact h
  | bad => exact h
theorem wR.bind {r : R α} {k : α → Sto → R γ} {Q : δ → Hp → Prop} (sr : SR G.K μ H σ ε) (h : wR G W Rl' (r.bind k) σ μ H Q) :
    wR G W Rl r σ μ H fun v H1 => ∃ d μ1 S1, Gr μ H μ1 H1 ∧ HS G μ1 S1 H1 ∧ SR G.K μ1 H1 σ ε ∧ Rl μ1 H1 v d ∧ wR G W Rl' (k d S1) σ μ1 H1 Q := by
  cases r with
  | ok d S' => exact fun v μ' H' g hs rl => ⟨d, μ', S', g, hs, sr.mono g, rl, wR.up g h⟩
  | exc c S' => exact h
  | bad => exact h
theorem wR.here {d : α} {v : β} {Q : β → Hp → Prop} (hs : HS G μ S H) (h : wR G W Rl (.ok d S) σ μ H Q) (r : Rl μ H v d) : Q v H := h v μ H Gr.refl hs r
end
def tR {α β : Type} (G : Gc) (W : WX) (Rl : List Addr → Hp → β → α → Prop) (den : Env → Sto → R α) : L2.St → Hp → (β → Hp → Prop) → Prop := fun σ H Q =>
  ∃ ε μ S, SR G.K μ H σ ε ∧ HS G μ S H ∧ wR G W Rl (den ε S) σ μ H Q
def rlV (G : Gc) : List Addr → Hp → V → D → Prop := fun μ H v d => RV G.K μ H v d
def rlB : List Addr → Hp → Bool → Bool → Prop := fun _ _ v d => v = d
def rlA (G : Gc) : List Addr → Hp → List V → List D → Prop := fun μ H v d => RVs G.K μ H v d
def rlO : List Addr → Hp → Option Int → Option Int → Prop := fun _ _ v d => v = d
abbrev Den := Env → Sto → R D
abbrev DenB := Env → Sto → R Bool
abbrev DenA := Env → Sto → R (List D)
abbrev DenO := Env → Sto → R (Option Int)
abbrev tD (G : Gc) (W : WX) (den : Den) : TE := tR G W (rlV G) den
abbrev tDB (G : Gc) (W : WX) (den : DenB) : TT := tR G W rlB den
abbrev tDA (G : Gc) (W : WX) (den : DenA) : TA := tR G W (rlA G) den
abbrev tDO (G : Gc) (W : WX) (den : DenO) : TO := tR G W rlO den
theorem _root_.L2.PE.imp {X : Cx} {e : Expr} {t t' : TE} (h : PE X e t) (q : ∀ σ H Q, t' σ H Q → t σ H Q) : PE X e t' := ⟨fun pins s σ H Q I z => h.run pins s σ H Q I (q _ _ _ z)⟩
theorem _root_.L2.PT.imp {X : Cx} {e : Expr} {t t' : TT} (h : PT X e t) (q : ∀ σ H Q, t' σ H Q → t σ H Q) : PT X e t' := ⟨fun pins s σ H Q I z => h.run pins s σ H Q I (q _ _ _ z)⟩
theorem _root_.L2.PA.imp {X : Cx} {e : List Expr} {t t' : TA} (h : PA X e t) (q : ∀ σ H Q, t' σ H Q → t σ H Q) : PA X e t' := ⟨fun pos pins s σ H Q I z => h.run pos pins s σ H Q I (q _ _ _ z)⟩
theorem _root_.L2.PW.imp {X : Cx} {e : Expr} {t t' : TT} (h : PW X e t) (q : ∀ σ H Q, t' σ H Q → t σ H Q) : PW X e t' := ⟨fun whole pins s σ H Q I z => h.run whole pins s σ H Q I (q _ _ _ z)⟩
section
variable {X : Cx} {T : Gt} {W : WX}
def dC (d : D) : Den := fun _ S => .ok d S
def dVar (i : Nat) : Den := fun ε S => match ε[i]? with
  | some (some d) => .ok d S
  | _ => .bad
theorem pd_int {i : Int} {j : Nat} {pos : Pos} : PE X (.Constant (.int i) j pos) (tD (gx X T) W (dC (.int i))) :=
  pe_int.imp fun _ _ _ ⟨_, _, _, _, hs, h⟩ => wR.here hs h (.int i)
theorem pd_bl {b : Bool} {j : Nat} {pos : Pos} : PE X (.Constant (.bool b) j pos) (tD (gx X T) W (dC (.bl b))) :=
  pe_bl.imp fun _ _ _ ⟨_, _, _, _, hs, h⟩ => wR.here hs h (.bl b)
theorem pd_str {x : Str} {j : Nat} {pos : Pos} : PE X (.Constant (.str x) j pos) (tD (gx X T) W (dC (.str x))) :=
  pe_str.imp fun _ _ _ ⟨_, _, _, _, hs, h⟩ => wR.here hs h (.str x)
theorem pd_var (i : Nat) {x : Str} {pos : Pos} (hN : X.N[i]? = some x := by rfl) (hv : Vis X.env.scope x := by first | exact Or.inl rfl | exact Or.inr (Or.inl rfl) | exact Or.inr (Or.inr rfl)) (hd : (x == ("__debug__" : Str)) = false := by decide)
    (hcd : (x == ("__classdict__" : Str)) = false := by decide) : PE X (.Name x pos) (tD (gx X T) W (dVar i)) :=
  (pe_var hN hv hd hcd).imp fun σ H Q ⟨ε, μ, S, sr, hs, h⟩ => by
    unfold dVar at h
    cases e : ε[i]? with
    | none => rw [e] at h; exact h.elim
    | some o =>
      cases o with
      | none => rw [e] at h; exact h.elim
      | some d =>
        rw [e] at h
        obtain ⟨v, e1, r⟩ := sr.2 i d e
        exact ⟨v, e1, wR.here hs h r⟩
theorem pd_gint {x : Str} {i : Int} {t : Tok} {pos : Pos} (hg : Gl X x) (hm : X.mg x = some (.int i t)) (hdb : (x == ("__debug__" : Str)) = false := by decide) : PE X (.Name x pos) (tD (gx X T) W (dC (.int i))) :=
  (pe_glob (v := .int i) hg hm ⟨t, rfl⟩ hdb).imp fun _ _ _ ⟨_, _, _, _, hs, h⟩ => wR.here hs h (.int i)
theorem pd_gstr {x : Str} {i : Str} {t : Tok} {pos : Pos} (hg : Gl X x) (hm : X.mg x = some (.str i t)) (hdb : (x == ("__debug__" : Str)) = false := by decide) : PE X (.Name x pos) (tD (gx X T) W (dC (.str i))) :=
  (pe_glob (v := .str i) hg hm ⟨t, rfl⟩ hdb).imp fun _ _ _ ⟨_, _, _, _, hs, h⟩ => wR.here hs h (.str i)
def dNil : DenA := fun _ S => .ok [] S
def dCons (a : Den) (r : DenA) : DenA := fun ε S => (a ε S).bind fun d S => (r ε S).bind fun ds S => .ok (d :: ds) S
theorem pda_nil : PA X [] (tDA (gx X T) W dNil) := pa_nil.imp fun _ _ _ ⟨_, _, _, _, hs, h⟩ => wR.here hs h .nil
theorem pda_cons {e : Expr} {es : List Expr} {a : Den} {r : DenA} (ha : PE X e (tD (gx X T) W a)) (hr : PA X es (tDA (gx X T) W r)) (he : starEach (e :: es) X.env = (false, eval e X.env) :: starEach es X.env := by rfl) :
    PA X (e :: es) (tDA (gx X T) W (dCons a r)) :=
  (pa_cons ha hr he).imp fun σ H Q ⟨ε, μ, S, sr, hs, h⟩ =>
    ⟨ε, μ, S, sr, hs, (wR.bind sr h).imp fun v H1 ⟨d, μ1, S1, g1, hs1, sr1, r1, h1⟩ =>
      ⟨ε, μ1, S1, sr1, hs1, (wR.bind (Rl := rlA (gx X T)) sr1 h1).imp fun vs H2 ⟨ds, μ2, S2, g2, hs2, sr2, r2, h2⟩ => wR.here hs2 h2 (.cons (RV.mono g2 r1) r2)⟩⟩
def big : Nat := 1000000
theorem big_ok {n : Nat} (h : n ≤ big) : n ≤ sizeLine := Nat.le_trans h (by decide)
theorem big_lt {n : Nat} (h : n ≤ big) : n < sizeLine := Nat.lt_of_le_of_lt h (by decide)
def mkTup (ds : List D) (S : Sto) : R D := if ds.length ≤ big then .ok (.tup ds) S else .bad
def mkLst (ds : List D) (S : Sto) : R D := if ds.length ≤ big then .ok (.ref S.length) (S ++ [.lst ds]) else .bad
theorem newT_of {G : Gc} {σ : L2.St} {μ : List Addr} {S : Sto} {H : Hp} {xs : List V} {ds : List D} {Q : VK} (hs : HS G μ S H) (r : RVs G.K μ H xs ds) (h : wR G W (rlV G) (.ok (.tup ds) S) σ μ H Q) : NewT H xs Q :=
  fun p o hp hd => h _ _ _ (Gr.new hp) (hs.beside hp) (.tup ⟨hs.fresh hp, .inr ⟨o, upd_same⟩⟩ (fun _ => ⟨o, upd_same, hd⟩) (r.mono (Gr.new hp)))
theorem new_tup {G : Gc} {σ : L2.St} {μ : List Addr} {S : Sto} {H : Hp} {xs : List V} {ds : List D} {Q : VK} (hs : HS G μ S H) (r : RVs G.K μ H xs ds) (h : wR G W (rlV G) (mkTup ds S) σ μ H Q) :
    xs.length ≤ sizeLine ∧ NewT H xs Q := by
  unfold mkTup at h
  split at h
  · exact ⟨by rw [r.length]; exact big_ok ‹_›, newT_of hs r h⟩
  · exact h.elim
theorem new_lst {G : Gc} {σ : L2.St} {μ : List Addr} {S : Sto} {H : Hp} {xs : List V} {ds : List D} {Q : VK} (hs : HS G μ S H) (r : RVs G.K μ H xs ds) (h : wR G W (rlV G) (mkLst ds S) σ μ H Q) :
    xs.length ≤ sizeLine ∧ ∀ p, H p = none → Q (.ref p) (upd H p (.lst xs)) := by
  unfold mkLst at h
  split at h
  · refine ⟨by rw [r.length]; exact big_ok ‹_›, fun p hp => h _ _ _ (Gr.obj hp) (hs.grow hp ⟨xs, upd_same, r.mono (Gr.obj hp)⟩) ?_⟩
    exact .ref hs.last
  · exact h.elim
def dTup (a : DenA) : Den := fun ε S => (a ε S).bind mkTup
def dLst (a : DenA) : Den := fun ε S => (a ε S).bind mkLst
theorem pd_tup {es : List Expr} {k : Nat} {pos : Pos} {a : DenA} (ha : PA X es (tDA (gx X T) W a)) : PE X (.Tuple es k pos) (tD (gx X T) W (dTup a)) :=
  (pe_tupB ha).imp fun σ H Q ⟨ε, μ, S, sr, hs, h⟩ => ⟨ε, μ, S, sr, hs, (wR.bind (Rl := rlA (gx X T)) sr h).imp fun vs H1 ⟨ds, μ1, S1, g1, hs1, sr1, r1, h1⟩ => new_tup hs1 r1 h1⟩
theorem pd_lst {es : List Expr} {pos : Pos} {a : DenA} (ha : PA X es (tDA (gx X T) W a)) : PE X (.List es pos) (tD (gx X T) W (dLst a)) :=
  (pe_lst ha).imp fun σ H Q ⟨ε, μ, S, sr, hs, h⟩ => ⟨ε, μ, S, sr, hs, (wR.bind (Rl := rlA (gx X T)) sr h).imp fun vs H1 ⟨ds, μ1, S1, g1, hs1, sr1, r1, h1⟩ => new_lst hs1 r1 h1⟩
abbrev Op := D → D → Sto → R D
def OpD (X : Cx) (T : Gt) (f : Value → Value → Sem Value) (o : Op) : Prop :=
  ∃ r : R2, OpR X f r ∧ ∀ (W : WX) σ μ S H x y d e Q, HS (gx X T) μ S H → RV X.K μ H x d → RV X.K μ H y e → wR (gx X T) W (rlV (gx X T)) (o d e S) σ μ H Q → r x y H Q
def dBin (o : Op) (a b : Den) : Den := fun ε S => (a ε S).bind fun d S => (b ε S).bind fun e S => o d e S
theorem bin_to {o : Op} {r : R2} {a b : Den} (ho : ∀ (W : WX) σ μ S H x y d e Q, HS (gx X T) μ S H → RV X.K μ H x d → RV X.K μ H y e → wR (gx X T) W (rlV (gx X T)) (o d e S) σ μ H Q → r x y H Q) :
    ∀ σ H Q, tD (gx X T) W (dBin o a b) σ H Q → tOp r (tD (gx X T) W a) (tD (gx X T) W b) σ H Q := fun σ H Q ⟨ε, μ, S, sr, hs, h⟩ =>
  ⟨ε, μ, S, sr, hs, (wR.bind (Rl := rlV (gx X T)) sr h).imp fun v H1 ⟨d, μ1, S1, g1, hs1, sr1, r1, h1⟩ =>
    ⟨ε, μ1, S1, sr1, hs1, (wR.bind (Rl := rlV (gx X T)) sr1 h1).imp fun w H2 ⟨e, μ2, S2, g2, hs2, sr2, r2, h2⟩ => ho W σ μ2 S2 H2 v w d e Q hs2 (RV.mono g2 r1) r2 h2⟩⟩
theorem pd_bin {op : Operator} {o : Op} {a b : Expr} {da db : Den} {pos : Pos} (ho : OpD X T (binaryOp op) o) (ha : PE X a (tD (gx X T) W da)) (hb : PE X b (tD (gx X T) W db)) : PE X (.BinOp a op b pos) (tD (gx X T) W (dBin o da db)) := by
  obtain ⟨r, hr, q⟩ := ho
  exact (pe_op hr ha hb).imp (bin_to q)
theorem pd_cmp {op : CmpOp} {o : Op} {a b : Expr} {da db : Den} {pos : Pos} (ho : OpD X T (compareOp op) o) (ha : PE X a (tD (gx X T) W da)) (hb : PE X b (tD (gx X T) W db)) (hm : behindInMarks op b = false) : PE X (.Compare a [op] [b] pos) (tD (gx X T) W (dBin o da db)) := by
  obtain ⟨r, hr, q⟩ := ho
  exact (pe_cmpR hr ha hb hm).imp (bin_to q)
def dTest (a : Den) : DenB := fun ε S => (a ε S).bind fun d S => match d with
  | .bl b => .ok b S
  | _ => .bad
theorem test_to {t : TE} {a : Den} (h0 : ∀ σ H Q, tD (gx X T) W a σ H Q → t σ H Q) : ∀ σ H Q, tDB (gx X T) W (dTest a) σ H Q → tTest t σ H Q := fun σ H Q ⟨ε, μ, S, sr, hs, h⟩ =>
  h0 _ _ _ ⟨ε, μ, S, sr, hs, (wR.bind (Rl := rlV (gx X T)) sr h).imp fun v H1 ⟨d, μ1, S1, g1, hs1, sr1, r1, h1⟩ => by
    have r1 : RV X.K μ1 H1 v d := r1
    cases r1 with
    | bl b => exact ⟨b, rfl, wR.here hs1 h1 rfl⟩
    | _ => exact h1.elim⟩
theorem ptd_cmp {op : CmpOp} {o : Op} {a b : Expr} {da db : Den} {pos : Pos} (ho : OpD X T (compareOp op) o) (ha : PE X a (tD (gx X T) W da)) (hb : PE X b (tD (gx X T) W db)) (hm : behindInMarks op b = false) : PT X (.Compare a [op] [b] pos) (tDB (gx X T) W (dTest (dBin o da db))) := by
  obtain ⟨r, hr, q⟩ := ho
  exact (pt_cmpR hr ha hb hm).imp (test_to (bin_to q))
theorem ptd_val {a : Expr} {da : Den} (ha : PE X a (tD (gx X T) W da)) (hw : ∀ whole, isTrue a X.env whole = (do let v ← whole; standAt a.pos; holding [v] (truthy v)) := by intro _; rfl) : PT X a (tDB (gx X T) W (dTest da)) :=
  (pt_val ha hw).imp (test_to (t := tD (gx X T) W da) fun _ _ _ h => h)
def oAdd : Op := fun d e S => match d, e with
  | .int i, .int j => .ok (.int (i + j)) S
  | .str x, .str y => if x.length + y.length ≤ big then .ok (.str (x ++ y)) S else .bad
  | .tup xs, .tup ys => if xs.length + ys.length ≤ big then .ok (.tup (xs ++ ys)) S else .bad
  | .ref n, .ref m => match S[n]?, S[m]? with
    | some (.lst xs), some (.lst ys) => mkLst (xs ++ ys) S
    | _, _ => .bad
  | _, _ => .bad
theorem HS.lst {G : Gc} {μ : List Addr} {S : Sto} {H : Hp} {v : V} {n : Nat} {ds : List D} (hs : HS G μ S H) (r : RV G.K μ H v (.ref n)) (e : S[n]? = some (.lst ds)) : ∃ a xs, v = .ref a ∧ μ[n]? = some a ∧ H a = some (.lst xs) ∧ RVs G.K μ H xs ds := by
  cases r with
  | ref q =>
    obtain ⟨o, e1, ro⟩ := hs.there q
    rw [e] at e1
    cases e1
    obtain ⟨xs, h1, h2⟩ := ro
    exact ⟨_, xs, rfl, q, h1, h2⟩
theorem HS.dct {G : Gc} {μ : List Addr} {S : Sto} {H : Hp} {v : V} {n : Nat} {ds : List (Key × D)} (hs : HS G μ S H) (r : RV G.K μ H v (.ref n)) (e : S[n]? = some (.dct ds)) : ∃ a xs, v = .ref a ∧ μ[n]? = some a ∧ H a = some (.dK xs) ∧ RKs G.K μ H xs ds := by
  cases r with
  | ref q =>
    obtain ⟨o, e1, ro⟩ := hs.there q
    rw [e] at e1
    cases e1
    obtain ⟨xs, h1, h2⟩ := ro
    exact ⟨_, xs, rfl, q, h1, h2⟩
theorem HS.ins {G : Gc} {μ : List Addr} {S : Sto} {H : Hp} {v : V} {n : Nat} {c : Str} {fs : List (Str × D)} (hs : HS G μ S H) (r : RV G.K μ H v (.ref n)) (e : S[n]? = some (.ins c fs)) :
    ∃ a C dx ws, v = .ref a ∧ μ[n]? = some a ∧ G.cA c = some C ∧ H a = some (.ins C dx ws) ∧ RKs G.K μ H ws fs := by
  cases r with
  | ref q =>
    obtain ⟨o, e1, ro⟩ := hs.there q
    rw [e] at e1
    cases e1
    obtain ⟨C, dx, ws, h1, h2, h3⟩ := ro
    exact ⟨_, C, dx, ws, rfl, q, h1, h2, h3⟩
theorem od_add : OpD X T (binaryOp .Add) oAdd := by
  refine ⟨_, op_add.or (op_add_str.or (op_catB.or op_cat)), fun W σ μ S H x y d e Q hs rx ry h => ?_⟩
  unfold oAdd at h
  split at h
  · cases rx
    cases ry
    exact .inl ⟨_, _, rfl, rfl, wR.here hs h (.int _)⟩
  · split at h
    · cases rx
      cases ry
      exact .inr (.inl ⟨_, _, rfl, rfl, big_ok ‹_›, wR.here hs h (.str _)⟩)
    · exact h.elim
  · split at h
    · cases rx with
      | tup tx bx rx =>
        cases ry with
        | tup ty bY ry =>
          refine .inr (.inr (.inl ⟨_, _, _, _, rfl, rfl, tx.sq, ty.sq, by rw [rx.length, ry.length]; exact big_ok ‹_›, fun z => ?_, fun _ z => ?_, fun _ _ => ?_⟩))
          · subst z
            cases rx
            exact wR.here hs h (.tup ty bY ry)
          · subst z
            cases ry
            rw [List.append_nil] at h
            exact wR.here hs h (.tup tx bx rx)
          · exact newT_of hs (rx.append ry) h
    · exact h.elim
  · split at h
    · obtain ⟨a, xs, rfl, ea, ha, ra⟩ := hs.lst rx ‹_›
      obtain ⟨b, ys, rfl, eb, hb, rb⟩ := hs.lst ry ‹_›
      have z := new_lst hs (ra.append rb) h
      rw [List.length_append] at z
      exact .inr (.inr (.inr ⟨_, _, _, _, rfl, rfl, ha, hb, z.1, z.2⟩))
    · exact h.elim
  · exact h.elim
def oSub : Op := fun d e S => match d, e with
  | .int i, .int j => .ok (.int (i - j)) S
  | _, _ => .bad
theorem od_sub : OpD X T (binaryOp .Sub) oSub := by
  refine ⟨_, op_sub, fun W σ μ S H x y d e Q hs rx ry h => ?_⟩
  unfold oSub at h
  split at h
  · cases rx
    cases ry
    exact ⟨_, _, rfl, rfl, wR.here hs h (.int _)⟩
  · exact h.elim
def oMod : Op := fun d e S => match d, e with
  | .int i, .int j => if 0 < j then .ok (.int (i % j)) S else .bad
  | _, _ => .bad
theorem od_mod : OpD X T (binaryOp .Mod) oMod := by
  refine ⟨_, op_mod, fun W σ μ S H x y d e Q hs rx ry h => ?_⟩
  unfold oMod at h
  split at h
  · split at h
    · cases rx
      cases ry
      exact ⟨_, _, rfl, rfl, ‹_›, wR.here hs h (.int _)⟩
    · exact h.elim
  · exact h.elim
def oDiv : Op := fun d e S => match d, e with
  | .int i, .int j => if 0 < j ∧ j < 1073741824 then .ok (.int (i / j)) S else .bad
  | _, _ => .bad
theorem od_div : OpD X T (binaryOp .FloorDiv) oDiv := by
  refine ⟨_, op_fdiv, fun W σ μ S H x y d e Q hs rx ry h => ?_⟩
  unfold oDiv at h
  split at h
  · split at h
    · cases rx
      cases ry
      exact ⟨_, _, rfl, rfl, ‹_›, wR.here hs h (.int _)⟩
    · exact h.elim
  · exact h.elim
end
end DL
namespace L2
open PySem PySem.Spec PyProof.Rows
theorem tuple_mul_self (l : Addr) (items : Array Value) (n : Nat) (dd : Option Addr) (sl : Array (Option Value)) (x : Int) (u : Tok) (c0 : (decide (x < -(2 ^ 63)) || decide (x ≥ 2 ^ 63)) = false) (c1 : (items.isEmpty || x == 1) = true) :
    Meets (Builtin.«tuple.__mul__» ⟨[.ref l, .int x u], []⟩) (fun _ R s => s.heap.get? l = some { cls := .type "tuple", dict := dd, data := .seq items n, slots := sl } ∧ R (.ok (.ret (Value.ref l))) { s with heap := s.heap, toks := s.toks }) :=
  .of_wp fun prog w A R s h => by
    obtain ⟨hp, g, d, tk, os⟩ := s
    obtain ⟨hl, h⟩ := h
    have f1 := AutoSeq1.idx_int
    wp_walk using wpAny_loadPart' hl
    repeat (first
      | (refine wpAny_ite_false (decide_eq_false (by rw [c0]; exact Bool.false_ne_true)) ?_; wp_walk using wpAny_loadPart' hl)
      | (refine wpAny_ite_true (decide_eq_true c1) ?_; wp_walk using wpAny_loadPart' hl))
    exact ⟨_, rfl, h⟩
section
variable {X : Cx}
def rRepSelf (K : PySem.W.Frag) : R2 := fun x y H Q => ∃ l k xs, x = .ref l ∧ y = .int k ∧ SqT K H l xs ∧ (xs = [] ∨ k = 1) ∧ 0 ≤ k ∧ k ≤ 1000 ∧ Q (.ref l) H
theorem op_repSelf : OpR X (binaryOp .Mult) (rRepSelf X.K) := by
  intro pins s σ H x y v u Q I rx ry h
  obtain ⟨l, k, xs, rfl, rfl, hT, hne, h1, h2, q⟩ := h
  cases rx
  obtain ⟨t, rfl⟩ := ry
  obtain ⟨its, r, ⟨⟨cls, dd, data, sl⟩, ho, hc, n, hd⟩, hs⟩ := I.tuple hT
  simp only at hc hd
  subst hc hd
  have c0 : (decide (k < -(2 ^ 63)) || decide (k ≥ 2 ^ 63)) = false := by
    rw [decide_eq_false (by omega), decide_eq_false (by omega)] <;> rfl
  have c1 : (its.toArray.isEmpty || k == 1) = true := by
    rcases hne with e | e
    · subst e
      cases r
      rfl
    · subst e
      simp
  refine wpAny_binaryOp_repeat_ref (T := "tuple") (U := "int") (by decide) ⟨_, ho, rfl⟩ (fun s' => typeIs_int s' k t) noFill_tuple_mul F.fills_int_mul F.slot_int_rmul repeat_tuple F.slot_int_index.lookup
    (call_meets F.slot_int_rmul (typeIs_int s k t) F.entry_int_rmul (F.args_int_rmul_2 _ _) (int_rmul_tuple k t l its.toArray n dd sl)
      ⟨ho, rfl, ⟨_, ho, rfl⟩, call_meets F.slot_tuple_mul ⟨_, ho, rfl⟩ F.entry_tuple_mul (F.args_tuple_mul_2 _ _) (tuple_mul_self l its.toArray n dd sl k t c0 c1) ⟨ho, ?_⟩⟩)
  exact ⟨.ref l, H, I, rfl, q⟩
def rInT (K : PySem.W.Frag) : R2 := fun x y H Q => ∃ d ds, Dp K H x d ∧ Dp K H y (.tuple ds) ∧ SeqAt.shaped d = true ∧ SeqAt.shaped (.tuple ds) = true ∧ Q (.bl (ds.any fun z => PyData.eqv z d)) H
def rNotInT (K : PySem.W.Frag) : R2 := fun x y H Q => ∃ d ds, Dp K H x d ∧ Dp K H y (.tuple ds) ∧ SeqAt.shaped d = true ∧ SeqAt.shaped (.tuple ds) = true ∧ Q (.bl (!ds.any fun z => PyData.eqv z d)) H
theorem op_inTD (hu : X.A.units + 65 < cLine) : OpR X (compareOp .In) (rInT X.K) := by
  intro pins s σ H x y v u Q I rx ry h
  obtain ⟨d, ds, hd, he, sd, se, q⟩ := h
  obtain ⟨as, r1⟩ := Dp.reads I d x v hd rx
  obtain ⟨bs, r2⟩ := Dp.reads I (.tuple ds) y u he ry
  exact SeqAt.in_tuple_reads r2 r1 (SeqAt.canLay_of_shaped se) (SeqAt.canLay_of_shaped sd) (room_in_shaped sd hu) ⟨.bl _, H, I, rfl, q⟩
theorem op_notInTD (hu : X.A.units + 65 < cLine) : OpR X (compareOp .NotIn) (rNotInT X.K) := by
  intro pins s σ H x y v u Q I rx ry h
  obtain ⟨d, ds, hd, he, sd, se, q⟩ := h
  obtain ⟨as, r1⟩ := Dp.reads I d x v hd rx
  obtain ⟨bs, r2⟩ := Dp.reads I (.tuple ds) y u he ry
  exact SeqAt.notIn_tuple_reads r2 r1 (SeqAt.canLay_of_shaped se) (SeqAt.canLay_of_shaped sd) (room_in_shaped sd hu) ⟨.bl _, H, I, rfl, q⟩
end
end L2
namespace DL
open PySem L2
section
variable {X : Cx} {T : Gt} {W : WX}
def oMul : Op := fun d e S => match d, e with
  | .int i, .int j => if (-(2 ^ 64) < i ∧ i < 2 ^ 64) ∨ (-(2 ^ 64) < j ∧ j < 2 ^ 64) then .ok (.int (i * j)) S else .bad
  | .tup xs, .int k => if 0 ≤ k ∧ k ≤ 1000 ∧ (xs = [] ∨ k = 1) then .ok (.tup xs) S else if 2 ≤ k ∧ k ≤ 1000 ∧ xs.length ≤ 1000 then .ok (.tup (List.replicate k.toNat xs).flatten) S else .bad
  | .ref n, .int k => match S[n]? with
    | some (.lst xs) => if -(2 ^ 63) ≤ k ∧ k < 2 ^ 63 ∧ xs.length * k.toNat ≤ big then .ok (.ref S.length) (S ++ [.lst (List.replicate k.toNat xs).flatten]) else .bad
    | _ => .bad
  | _, _ => .bad
theorem od_mul : OpD X T (binaryOp .Mult) oMul := by
  refine ⟨_, op_mul.or (op_repSelf.or (op_repB.or op_rep)), fun W σ μ S H x y d e Q hs rx ry h => ?_⟩
  unfold oMul at h
  split at h
  · split at h
    · cases rx
      cases ry
      exact .inl ⟨_, _, rfl, rfl, ‹_›, wR.here hs h (.int _)⟩
    · exact h.elim
  · cases ry
    cases rx with
    | tup tx bx rx =>
      split at h
      · rename_i hyes
        obtain ⟨h1, h2, h3⟩ := hyes
        refine .inr (.inl ⟨_, _, _, rfl, rfl, tx.sq, ?_, h1, h2, wR.here hs h (.tup tx bx rx)⟩)
        rcases h3 with h3 | h3
        · subst h3
          cases rx
          exact .inl rfl
        · exact .inr h3
      · rename_i hno
        split at h
        · rename_i hyes
          obtain ⟨h1, h2, h3⟩ := hyes
          refine .inr (.inr (.inl ⟨_, _, _, rfl, rfl, tx.sq, fun z => hno ⟨by omega, h2, .inl ?_⟩, h1, h2, by rw [rx.length]; exact h3, newT_of hs (rx.rep _) h⟩))
          subst z
          cases rx
          rfl
        · exact h.elim
  · split at h
    · split at h
      · rename_i hyes
        cases ry
        obtain ⟨h1, h2, h3⟩ := hyes
        obtain ⟨a, xs, rfl, ea, ha, ra⟩ := hs.lst rx ‹_›
        refine .inr (.inr (.inr ⟨_, _, _, rfl, rfl, ha, h1, h2, ?_, fun p hp => ?_⟩))
        · rw [ra.length]
          exact big_ok h3
        · exact h _ _ _ (Gr.obj hp) (hs.grow hp ⟨_, upd_same, (ra.rep _).mono (Gr.obj hp)⟩) (.ref hs.last)
      · exact h.elim
    · exact h.elim
  · exact h.elim
def dNeg (a : Den) : Den := fun ε S => (a ε S).bind fun d S => match d with
  | .int i => .ok (.int (-i)) S
  | _ => .bad
def oInt (f : Int → Int → Bool) : Op := fun d e S => match d, e with
  | .int i, .int j => .ok (.bl (f i j)) S
  | _, _ => .bad
theorem od_int {op : CmpOp} {f : Int → Int → Bool} (ho : OpR X (compareOp op) (rI0 fun i j => .bl (f i j))) : OpD X T (compareOp op) (oInt f) := by
  refine ⟨_, ho, fun W σ μ S H x y d e Q hs rx ry h => ?_⟩
  unfold oInt at h
  split at h
  · cases rx
    cases ry
    exact ⟨_, _, rfl, rfl, wR.here hs h (.bl _)⟩
  · exact h.elim
abbrev oLt : Op := oInt fun i j => decide (i < j)
abbrev oLe : Op := oInt fun i j => decide (i ≤ j)
abbrev oGt : Op := oInt fun i j => decide (j < i)
abbrev oGe : Op := oInt fun i j => decide (j ≤ i)
theorem od_lt : OpD X T (compareOp .Lt) oLt := od_int op_lt
theorem od_le : OpD X T (compareOp .LtE) oLe := od_int op_le
theorem od_gt : OpD X T (compareOp .Gt) oGt := od_int op_gt
theorem od_ge : OpD X T (compareOp .GtE) oGe := od_int op_ge
def oIsN : Op := fun d e S => match e with
  | .non => .ok (.bl (match d with | .non => true | _ => false)) S
  | _ => .bad
def oNotN : Op := fun d e S => match e with
  | .non => .ok (.bl (match d with | .non => false | _ => true)) S
  | _ => .bad
def fall {α β : Type} (f : α → Option β) : List α → Option (List β)
  | [] => some []
  | a :: r => match f a, fall f r with
    | some b, some s => some (b :: s)
    | _, _ => none
def frz : Nat → Sto → D → Option PyData
  | 0, _, _ => none
  | n + 1, S, d => match d with
    | .non => some .none
    | .bl b => some (.bool b)
    | .int i => some (.int i)
    | .str x => some (.str x)
    | .tup ds => (fall (frz n S) ds).map .tuple
    | .seq ds => (fall (frz n S) ds).map .list
    | .ref m => match S[m]? with
      | some (.lst ds) => (fall (frz n S) ds).map .list
      | _ => none
theorem fall_dp {K : PySem.W.Frag} {μ : List Addr} {H : Hp} {f : D → Option PyData} (hf : ∀ v d p, RV K μ H v d → f d = some p → Dp K H v p) : ∀ {vs : List V} {ds : List D} {ps : List PyData}, RVs K μ H vs ds → fall f ds = some ps → DpAll K H vs ps
  | _, _, _, .nil, e => by cases e; exact .nil
  | _, d :: ds, _, .cons h t, e => by
    unfold fall at e
    split at e
    · cases e
      exact .cons (hf _ _ _ h ‹_›) (fall_dp hf t ‹_›)
    · cases e
theorem frz_dp {G : Gc} {μ : List Addr} {S : Sto} {H : Hp} (hs : HS G μ S H) : ∀ (n : Nat) {v : V} {d : D} {p : PyData}, RV G.K μ H v d → frz n S d = some p → Dp G.K H v p
  | 0, _, _, _, _, e => by cases e
  | n + 1, v, d, p, r, e => by
    have ih : ∀ v d p, RV G.K μ H v d → frz n S d = some p → Dp G.K H v p := fun v d p => frz_dp hs n
    unfold frz at e
    cases r with
    | non => cases e; exact .non
    | bl b => cases e; exact .bl b
    | int i => cases e; exact .int i
    | str x => cases e; exact .str x
    | tup t bt rs =>
      obtain ⟨ps, e1, rfl⟩ := Option.map_eq_some_iff.mp e
      exact .tup t.sq (fall_dp ih rs e1)
    | seq t rs =>
      obtain ⟨ps, e1, rfl⟩ := Option.map_eq_some_iff.mp e
      exact .lst t.sq (fall_dp ih rs e1)
    | ref q =>
      simp only at e
      split at e
      · obtain ⟨ps, e1, rfl⟩ := Option.map_eq_some_iff.mp e
        obtain ⟨a, xs, ev, ea, ha, ra⟩ := hs.lst (RV.ref q) ‹_›
        cases ev
        exact .lst (.inl (.inl ha)) (fall_dp ih ra e1)
      · cases e
def deep : Nat := 40
def sEq : D → D → Option Bool
  | .non, .non => some true
  | .non, .int _ => some false | .int _, .non => some false | .non, .bl _ => some false | .bl _, .non => some false | .non, .str _ => some false | .str _, .non => some false
  | .int i, .int j => some (decide (i = j))
  | .bl i, .bl j => some (decide (i = j))
  | .str i, .str j => some (decide (i = j))
  | .int _, .str _ => some false | .str _, .int _ => some false | .bl _, .str _ => some false | .str _, .bl _ => some false
  | _, _ => none
def dEq (S : Sto) (d e : D) : Option Bool := match sEq d e with
  | some b => some b
  | none => match frz deep S d, frz deep S e with
    | some p, some q => if SeqAt.shaped p = true ∧ SeqAt.shaped q = true then some (PyData.eqv p q) else none
    | _, _ => none
def oEq : Op := fun d e S => match dEq S d e with
  | some b => .ok (.bl b) S
  | none => .bad
def oNe : Op := fun d e S => match dEq S d e with
  | some b => .ok (.bl !b) S
  | none => .bad
theorem sEq_of {K : PySem.W.Frag} {μ : List Addr} {H : Hp} {x y : V} {d e : D} {b : Bool} (rx : RV K μ H x d) (ry : RV K μ H y e) (h : sEq d e = some b) : scal x y = true ∧ decide (x = y) = b := by
  cases rx <;> cases ry <;> first
    | (cases h; exact ⟨rfl, by simp⟩)
    | (cases h)
theorem od_eq (hu : X.A.units + 64 < cLine) : OpD X T (compareOp .Eq) oEq := by
  refine ⟨_, op_eq.or (op_eqD hu), fun W σ μ S H x y d e Q hs rx ry h => ?_⟩
  unfold oEq at h
  split at h
  · rename_i b hb
    unfold dEq at hb
    split at hb
    · cases hb
      obtain ⟨h1, h2⟩ := sEq_of rx ry ‹_›
      refine .inl ⟨h1, ?_⟩
      rw [h2]
      exact wR.here hs h (.bl _)
    · split at hb
      · split at hb
        · cases hb
          obtain ⟨h1, h2⟩ := ‹_ ∧ _›
          exact .inr ⟨_, _, frz_dp hs _ rx ‹_›, frz_dp hs _ ry ‹_›, h1, h2, wR.here hs h (.bl _)⟩
        · cases hb
      · cases hb
  · exact h.elim
theorem od_ne (hu : X.A.units + 64 < cLine) : OpD X T (compareOp .NotEq) oNe := by
  refine ⟨_, op_ne.or (op_neD hu), fun W σ μ S H x y d e Q hs rx ry h => ?_⟩
  unfold oNe at h
  split at h
  · rename_i b hb
    unfold dEq at hb
    split at hb
    · cases hb
      obtain ⟨h1, h2⟩ := sEq_of rx ry ‹_›
      refine .inl ⟨h1, ?_⟩
      rw [h2]
      exact wR.here hs h (.bl _)
    · split at hb
      · split at hb
        · cases hb
          obtain ⟨h1, h2⟩ := ‹_ ∧ _›
          exact .inr ⟨_, _, frz_dp hs _ rx ‹_›, frz_dp hs _ ry ‹_›, h1, h2, wR.here hs h (.bl _)⟩
        · cases hb
      · cases hb
  · exact h.elim
end
end DL
namespace DL
open PySem L2
section
variable {X : Cx} {T : Gt} {W : WX}
def flatD : D → Bool
  | .non => true | .bl _ => true | .int _ => true | .str _ => true
  | _ => false
def eqF : D → D → Bool
  | .non, .non => true
  | .bl a, .bl b => a == b
  | .bl a, .int b => (if a then 1 else 0) == b
  | .int a, .bl b => a == (if b then 1 else 0)
  | .int a, .int b => a == b
  | .str a, .str b => a == b
  | _, _ => false
theorem flat_of {K : PySem.W.Frag} {μ : List Addr} {H : Hp} {v : V} {d : D} (r : RV K μ H v d) : flatV v = flatD d := by cases r <;> rfl
theorem eqF_of {K : PySem.W.Frag} {μ : List Addr} {H : Hp} {x y : V} {d e : D} (r : RV K μ H x d) (r' : RV K μ H y e) : eqV x y = eqF d e := by cases r <;> cases r' <;> rfl
theorem flats_of {K : PySem.W.Frag} {μ : List Addr} {H : Hp} : ∀ {vs : List V} {ds : List D}, RVs K μ H vs ds → vs.all flatV = ds.all flatD
  | _, _, .nil => rfl
  | _, _, .cons h t => by rw [List.all_cons, List.all_cons, flat_of h, flats_of t]
theorem inV_of {K : PySem.W.Frag} {μ : List Addr} {H : Hp} {x : V} {d : D} (r : RV K μ H x d) : ∀ {vs : List V} {ds : List D}, RVs K μ H vs ds → inV x vs = ds.any fun e => eqF e d
  | _, _, .nil => rfl
  | v :: vs, e :: ds, .cons h t => by
    have q := inV_of r t
    unfold inV at q ⊢
    rw [List.any_cons, List.any_cons, eqF_of h r, q]
def items (S : Sto) : D → Option (List D)
  | .tup ds => some ds
  | .seq ds => some ds
  | .ref n => match S[n]? with
    | some (.lst ds) => some ds
    | _ => none
  | _ => none
theorem items_of {G : Gc} {μ : List Addr} {S : Sto} {H : Hp} (hs : HS G μ S H) {v : V} {d : D} {ds : List D} (r : RV G.K μ H v d) (e : items S d = some ds) : ∃ a xs, v = .ref a ∧ (SqL G.K H a xs ∨ SqT G.K H a xs) ∧ RVs G.K μ H xs ds := by
  cases r with
  | tup t _ rs => cases e; exact ⟨_, _, rfl, .inr t.sq, rs⟩
  | seq t rs => cases e; exact ⟨_, _, rfl, .inl t.sq, rs⟩
  | ref q =>
    simp only [items] at e
    split at e
    · cases e
      obtain ⟨a, xs, ev, ea, ha, ra⟩ := hs.lst (RV.ref q) ‹_›
      exact ⟨a, xs, ev, .inl (.inl (.inl ha)), ra⟩
    · cases e
  | _ => cases e
def inD (S : Sto) (d e : D) : Option Bool := match d, e with
  | .str x, .str y => if x.cps.size = 1 then some (decide (x.cps.getD 0 0 ∈ y.cps.toList)) else none
  | d, e => match items S e with
    | some ds => if flatD d = true ∧ ds.all flatD = true then some (ds.any fun z => eqF z d) else
      match frz deep S d, frz deep S e with
      | some p, some (.list ps) => if SeqAt.shaped p = true ∧ SeqAt.shaped (.list ps) = true then some (ps.any fun z => PyData.eqv z p) else none
      | some p, some (.tuple ps) => if SeqAt.shaped p = true ∧ SeqAt.shaped (.tuple ps) = true then some (ps.any fun z => PyData.eqv z p) else none
      | _, _ => none
    | none => none
def oIn : Op := fun d e S => match inD S d e with
  | some b => .ok (.bl b) S
  | none => .bad
def oNotIn : Op := fun d e S => match inD S d e with
  | some b => .ok (.bl !b) S
  | none => .bad
theorem sign_eta {x : Str} (h : x.cps.size = 1) : x = ⟨#[x.cps.getD 0 0]⟩ := by
  obtain ⟨c⟩ := x
  obtain ⟨l⟩ := c
  match l, h with
  | [a], _ => rfl
theorem inD_to {G : Gc} {σ : L2.St} {μ : List Addr} {S : Sto} {H : Hp} {x y : V} {d e : D} {b : Bool} (hs : HS G μ S H) (rx : RV G.K μ H x d) (ry : RV G.K μ H y e) (h : inD S d e = some b) (neg : Bool) {Q : VK} (q : Q (.bl (if neg then !b else b)) H) :
    (∃ c z, x = V.str ⟨#[c]⟩ ∧ y = V.str z ∧ Q (.bl (if neg then !(decide (c ∈ z.cps.toList)) else decide (c ∈ z.cps.toList))) H) ∨ rIn G.K neg x y H Q ∨
    (∃ p ps, Dp G.K H x p ∧ Dp G.K H y (.list ps) ∧ SeqAt.shaped p = true ∧ SeqAt.shaped (.list ps) = true ∧ Q (.bl (if neg then !(ps.any fun z => PyData.eqv z p) else (ps.any fun z => PyData.eqv z p))) H) ∨
    (∃ p ps, Dp G.K H x p ∧ Dp G.K H y (.tuple ps) ∧ SeqAt.shaped p = true ∧ SeqAt.shaped (.tuple ps) = true ∧ Q (.bl (if neg then !(ps.any fun z => PyData.eqv z p) else (ps.any fun z => PyData.eqv z p))) H) := by
  unfold inD at h
  split at h
  · split at h
    · rename_i hx
      cases h
      cases rx
      cases ry
      exact .inl ⟨_, _, congrArg V.str (sign_eta hx), rfl, q⟩
    · cases h
  · split at h
    · rename_i ds hd
      split at h
      · rename_i hf
        cases h
        obtain ⟨a, xs, ev, hq, rs⟩ := items_of hs ry hd
        refine .inr (.inl ⟨a, xs, ev, hq, by rw [flat_of rx]; exact hf.1, by rw [flats_of rs]; exact hf.2, ?_⟩)
        rw [inV_of rx rs]
        exact q
      · split at h
        · split at h
          · rename_i hsh
            cases h
            exact .inr (.inr (.inl ⟨_, _, frz_dp hs _ rx ‹_›, frz_dp hs _ ry ‹_›, hsh.1, hsh.2, q⟩))
          · cases h
        · split at h
          · rename_i hsh
            cases h
            exact .inr (.inr (.inr ⟨_, _, frz_dp hs _ rx ‹_›, frz_dp hs _ ry ‹_›, hsh.1, hsh.2, q⟩))
          · cases h
        · cases h
    · cases h
theorem od_in (hu : X.A.units + 65 < cLine) : OpD X T (compareOp .In) oIn := by
  refine ⟨_, op_in_sign.or (op_in_seq.or ((op_inD hu).or (op_inTD hu))), fun W σ μ S H x y d e Q hs rx ry h => ?_⟩
  unfold oIn at h
  split at h
  · exact inD_to (σ := σ) hs rx ry ‹_› false (wR.here hs h (.bl _))
  · exact h.elim
theorem od_notIn (hu : X.A.units + 65 < cLine) : OpD X T (compareOp .NotIn) oNotIn := by
  refine ⟨_, op_notIn_sign.or (op_notIn_seq.or ((op_notInD hu).or (op_notInTD hu))), fun W σ μ S H x y d e Q hs rx ry h => ?_⟩
  unfold oNotIn at h
  split at h
  · exact inD_to (σ := σ) hs rx ry ‹_› true (wR.here hs h (.bl _))
  · exact h.elim
def oIx : Op := fun d e S => match d, e with
  | .str z, .int i => if z.length ≤ big then (match atI z.cps.toList i with
    | some c => .ok (.str ⟨#[c]⟩) S
    | none => .bad) else .bad
  | d, .int i => match items S d with
    | some ds => (match atI ds i with
      | some x => .ok x S
      | none => .bad)
    | none => .bad
  | _, _ => .bad
theorem atI_of {K : PySem.W.Frag} {μ : List Addr} {H : Hp} {vs : List V} {ds : List D} {i : Int} {d : D} (r : RVs K μ H vs ds) (e : atI ds i = some d) : ∃ v, atI vs i = some v ∧ RV K μ H v d := by
  unfold atI at e ⊢
  rw [r.length]
  obtain ⟨j, e1, e2⟩ := Option.bind_eq_some_iff.mp e
  obtain ⟨v, h1, h2⟩ := r.get e2
  exact ⟨v, by rw [e1]; exact h1, h2⟩
theorem pd_ix {a b : Expr} {da db : Den} {pos : Pos} (ha : PE X a (tD (gx X T) W da)) (hb : PE X b (tD (gx X T) W db)) (hp : PlainIx b := by exact fun _ _ => rfl) : PE X (.Subscript a b pos) (tD (gx X T) W (dBin oIx da db)) := by
  refine (pe_ix (ix_str.or (ix_list.or ix_tup)) ha hb hp).imp (bin_to fun W σ μ S H x y d e Q hs rx ry h => ?_)
  unfold oIx at h
  split at h
  · split at h
    · split at h
      · cases rx
        cases ry
        exact .inl ⟨_, _, _, rfl, rfl, big_ok ‹_›, ‹_›, wR.here hs h (.str _)⟩
      · exact h.elim
    · exact h.elim
  · split at h
    · split at h
      · cases ry
        obtain ⟨p, xs, ev, hq, rs⟩ := items_of hs rx ‹_›
        obtain ⟨v, h1, h2⟩ := atI_of rs ‹_›
        subst ev
        rcases hq with hq | hq
        · exact .inr (.inl ⟨_, _, _, _, rfl, rfl, hq, h1, wR.here hs h h2⟩)
        · exact .inr (.inr ⟨_, _, _, _, rfl, rfl, hq, h1, wR.here hs h h2⟩)
      · exact h.elim
    · exact h.elim
  · exact h.elim
def cutD (xs : List D) (lo hi : Option Int) : List D := (xs.drop (HT.sIx xs.length 0 lo)).take (HT.sIx xs.length xs.length hi - HT.sIx xs.length 0 lo)
theorem cut_of {K : PySem.W.Frag} {μ : List Addr} {H : Hp} {vs : List V} {ds : List D} (r : RVs K μ H vs ds) (lo hi : Option Int) : RVs K μ H (cutV vs lo hi) (cutD ds lo hi) := by
  unfold cutV cutD
  rw [r.length]
  exact (r.drop _).take _
def oSl (d : D) (lo hi : Option Int) (S : Sto) : R D := match d with
  | .str z => if z.length ≤ big then .ok (.str (cutS z lo hi)) S else .bad
  | .tup ds => .ok (.tup (cutD ds lo hi)) S
  | .seq ds => if ds.length ≤ big then .ok (.ref S.length) (S ++ [.lst (cutD ds lo hi)]) else .bad
  | .ref n => match S[n]? with
    | some (.lst ds) => if ds.length ≤ big then .ok (.ref S.length) (S ++ [.lst (cutD ds lo hi)]) else .bad
    | _ => .bad
  | _ => .bad
def dNoPart : DenO := fun _ S => .ok none S
def dPart (a : Den) : DenO := fun ε S => (a ε S).bind fun d S => match d with
  | .int i => .ok (some i) S
  | _ => .bad
theorem _root_.L2.PO.imp {X : Cx} {e : Option Expr} {t t' : TO} (h : PO X e t) (q : ∀ σ H Q, t' σ H Q → t σ H Q) : PO X e t' := ⟨fun pins s σ H Q I z => h.run pins s σ H Q I (q _ _ _ z)⟩
theorem pod_none : PO X none (tDO (gx X T) W dNoPart) := po_none.imp fun _ _ _ ⟨_, _, _, _, hs, h⟩ => wR.here hs h rfl
theorem pod_some {e : Expr} {a : Den} (ha : PE X e (tD (gx X T) W a)) : PO X (some e) (tDO (gx X T) W (dPart a)) :=
  (po_some ha).imp fun σ H Q ⟨ε, μ, S, sr, hs, h⟩ => ⟨ε, μ, S, sr, hs, (wR.bind (Rl := rlV (gx X T)) sr h).imp fun v H1 ⟨d, μ1, S1, g1, hs1, sr1, r1, h1⟩ => by
    have r1 : RV X.K μ1 H1 v d := r1
    cases r1 with
    | int i => exact ⟨i, rfl, wR.here hs1 h1 rfl⟩
    | _ => exact h1.elim⟩
def dSl (a : Den) (lo hi : DenO) : Den := fun ε S => (a ε S).bind fun d S => (lo ε S).bind fun l S => (hi ε S).bind fun u S => oSl d l u S
theorem cutD_whole {vs : List D} {lo hi : Option Int} (h : HT.sIx vs.length 0 lo = 0 ∧ HT.sIx vs.length vs.length hi = vs.length) : cutD vs lo hi = vs := by
  unfold cutD
  rw [h.1, h.2]
  simp
theorem pd_sl {e : Expr} {lo hi : Option Expr} {a : Den} {dl dh : DenO} {pos p2 : Pos} (ha : PE X e (tD (gx X T) W a)) (hl : PO X lo (tDO (gx X T) W dl)) (hh : PO X hi (tDO (gx X T) W dh)) : PE X (.Subscript e (.Slice lo hi none p2) pos) (tD (gx X T) W (dSl a dl dh)) :=
  (pe_slice (sl_str.or (sl_list.or sl_tupB)) ha hl hh).imp fun σ H Q ⟨ε, μ, S, sr, hs, h⟩ => ⟨ε, μ, S, sr, hs, (wR.bind (Rl := rlV (gx X T)) sr h).imp fun v H1 ⟨d, μ1, S1, g1, hs1, sr1, r1, h1⟩ =>
    ⟨ε, μ1, S1, sr1, hs1, (wR.bind (Rl := rlO) sr1 h1).imp fun l H2 ⟨l', μ2, S2, g2, hs2, sr2, r2, h2⟩ =>
      ⟨ε, μ2, S2, sr2, hs2, (wR.bind (Rl := rlO) sr2 h2).imp fun u H3 ⟨u', μ3, S3, g3, hs3, sr3, r3, h3⟩ => by
        have e1 : l = l' := r2
        have e2 : u = u' := r3
        subst e1 e2
        have rx : RV X.K μ3 H3 v d := RV.mono (g2.trans g3) r1
        unfold oSl at h3
        split at h3
        · split at h3
          · cases rx
            exact .inl ⟨_, rfl, big_ok ‹_›, wR.here hs3 h3 (.str _)⟩
          · exact h3.elim
        · cases rx with
          | tup t bt rs =>
            refine .inr (.inr ⟨_, _, rfl, t.sq, fun z => ?_, fun _ => ?_⟩)
            · rw [rs.length] at z
              rw [cutD_whole z] at h3
              exact wR.here hs3 h3 (.tup t bt rs)
            · exact newT_of hs3 (cut_of rs _ _) h3
        · split at h3
          · cases rx with
            | seq t rs =>
              exact .inr (.inl ⟨_, _, rfl, t.sq, fun p hp => h3 _ _ _ (Gr.obj hp) (hs3.grow hp ⟨_, upd_same, (cut_of rs _ _).mono (Gr.obj hp)⟩) (.ref hs3.last)⟩)
          · exact h3.elim
        · split at h3
          · split at h3
            · obtain ⟨p, xs, rfl, ea, hp', rs⟩ := hs3.lst rx ‹_›
              exact .inr (.inl ⟨_, _, rfl, .inl (.inl hp'), fun p hp => h3 _ _ _ (Gr.obj hp) (hs3.grow hp ⟨_, upd_same, (cut_of rs _ _).mono (Gr.obj hp)⟩) (.ref hs3.last)⟩)
            · exact h3.elim
          · exact h3.elim
        · exact h3.elim⟩⟩⟩
def bAnd (a b : DenB) : DenB := fun ε S => (a ε S).bind fun c S => if c = true then b ε S else .ok false S
def bOr (a b : DenB) : DenB := fun ε S => (a ε S).bind fun c S => if c = true then .ok true S else b ε S
def bNot (a : DenB) : DenB := fun ε S => (a ε S).bind fun c S => .ok (!c) S
section
variable {a b c : Expr} {rest : List Expr} {da db dc : Den} {ba bb : DenB} {pos : Pos}
theorem pwd_and1 (ha : PT X a (tDB (gx X T) W ba)) : PW X (.BoolOp .And [a] pos) (tDB (gx X T) W ba) := pw_and1 ha
theorem pwd_or1 (ha : PT X a (tDB (gx X T) W ba)) : PW X (.BoolOp .Or [a] pos) (tDB (gx X T) W ba) := pw_or1 ha
theorem pwd_and (ha : PT X a (tDB (gx X T) W ba)) (hb : PW X (.BoolOp .And (b :: rest) pos) (tDB (gx X T) W bb)) : PW X (.BoolOp .And (a :: b :: rest) pos) (tDB (gx X T) W (bAnd ba bb)) :=
  (pw_and ha hb).imp fun σ H Q ⟨ε, μ, S, sr, hs, h⟩ => ⟨ε, μ, S, sr, hs, (wR.bind (Rl := rlB) sr h).imp fun v H1 ⟨d, μ1, S1, g1, hs1, sr1, r1, h1⟩ => by
    have r1 : v = d := r1
    subst r1
    cases v with
    | true => exact ⟨ε, μ1, S1, sr1, hs1, h1⟩
    | false => exact wR.here hs1 h1 rfl⟩
theorem pwd_or (ha : PT X a (tDB (gx X T) W ba)) (hb : PW X (.BoolOp .Or (b :: rest) pos) (tDB (gx X T) W bb)) : PW X (.BoolOp .Or (a :: b :: rest) pos) (tDB (gx X T) W (bOr ba bb)) :=
  (pw_or ha hb).imp fun σ H Q ⟨ε, μ, S, sr, hs, h⟩ => ⟨ε, μ, S, sr, hs, (wR.bind (Rl := rlB) sr h).imp fun v H1 ⟨d, μ1, S1, g1, hs1, sr1, r1, h1⟩ => by
    have r1 : v = d := r1
    subst r1
    cases v with
    | true => exact wR.here hs1 h1 rfl
    | false => exact ⟨ε, μ1, S1, sr1, hs1, h1⟩⟩
theorem ptd_not (ha : PT X a (tDB (gx X T) W ba)) : PT X (.UnaryOp .Not a pos) (tDB (gx X T) W (bNot ba)) :=
  (pt_not ha).imp fun σ H Q ⟨ε, μ, S, sr, hs, h⟩ => ⟨ε, μ, S, sr, hs, (wR.bind (Rl := rlB) sr h).imp fun v H1 ⟨d, μ1, S1, g1, hs1, sr1, r1, h1⟩ => by
    have r1 : v = d := r1
    subst r1
    exact wR.here hs1 h1 rfl⟩
def dAndV (a b : Den) : Den := fun ε S => (a ε S).bind fun c S => match c with
  | .bl true => b ε S
  | .bl false => .ok (.bl false) S
  | _ => .bad
def dOrV (a b : Den) : Den := fun ε S => (a ε S).bind fun c S => match c with
  | .bl true => .ok (.bl true) S
  | .bl false => b ε S
  | _ => .bad
def dNotV (a : Den) : Den := fun ε S => (a ε S).bind fun c S => match c with
  | .bl b => .ok (.bl !b) S
  | _ => .bad
theorem pd_one {op : BoolOp} (ha : PE X a (tD (gx X T) W da)) : PE X (.BoolOp op [a] pos) (tD (gx X T) W da) := pe_one ha
theorem pd_and (ha : PE X a (tD (gx X T) W da)) (hb : PE X (.BoolOp .And (b :: rest) pos) (tD (gx X T) W db)) : PE X (.BoolOp .And (a :: b :: rest) pos) (tD (gx X T) W (dAndV da db)) :=
  (pe_and ha hb).imp fun σ H Q ⟨ε, μ, S, sr, hs, h⟩ => ⟨ε, μ, S, sr, hs, (wR.bind (Rl := rlV (gx X T)) sr h).imp fun v H1 ⟨d, μ1, S1, g1, hs1, sr1, r1, h1⟩ => by
    have r1 : RV X.K μ1 H1 v d := r1
    cases r1 with
    | bl k =>
      refine ⟨k, rfl, ?_⟩
      cases k with
      | true => exact ⟨ε, μ1, S1, sr1, hs1, h1⟩
      | false => exact wR.here hs1 h1 (.bl _)
    | _ => exact h1.elim⟩
theorem pd_or (ha : PE X a (tD (gx X T) W da)) (hb : PE X (.BoolOp .Or (b :: rest) pos) (tD (gx X T) W db)) : PE X (.BoolOp .Or (a :: b :: rest) pos) (tD (gx X T) W (dOrV da db)) :=
  (pe_or ha hb).imp fun σ H Q ⟨ε, μ, S, sr, hs, h⟩ => ⟨ε, μ, S, sr, hs, (wR.bind (Rl := rlV (gx X T)) sr h).imp fun v H1 ⟨d, μ1, S1, g1, hs1, sr1, r1, h1⟩ => by
    have r1 : RV X.K μ1 H1 v d := r1
    cases r1 with
    | bl k =>
      refine ⟨k, rfl, ?_⟩
      cases k with
      | true => exact wR.here hs1 h1 (.bl _)
      | false => exact ⟨ε, μ1, S1, sr1, hs1, h1⟩
    | _ => exact h1.elim⟩
theorem pd_not (ha : PE X a (tD (gx X T) W da)) : PE X (.UnaryOp .Not a pos) (tD (gx X T) W (dNotV da)) :=
  (pe_not ha).imp fun σ H Q ⟨ε, μ, S, sr, hs, h⟩ => ⟨ε, μ, S, sr, hs, (wR.bind (Rl := rlV (gx X T)) sr h).imp fun v H1 ⟨d, μ1, S1, g1, hs1, sr1, r1, h1⟩ => by
    have r1 : RV X.K μ1 H1 v d := r1
    cases r1 with
    | bl k => exact ⟨k, rfl, wR.here hs1 h1 (.bl _)⟩
    | _ => exact h1.elim⟩
def dIf (c : DenB) (a b : Den) : Den := fun ε S => (c ε S).bind fun k S => if k = true then a ε S else b ε S
theorem pd_if (hc : PT X c (tDB (gx X T) W ba)) (ha : PE X a (tD (gx X T) W da)) (hb : PE X b (tD (gx X T) W db)) : PE X (.IfExp c a b pos) (tD (gx X T) W (dIf ba da db)) :=
  (pe_ifExp hc ha hb).imp fun σ H Q ⟨ε, μ, S, sr, hs, h⟩ => ⟨ε, μ, S, sr, hs, (wR.bind (Rl := rlB) sr h).imp fun v H1 ⟨d, μ1, S1, g1, hs1, sr1, r1, h1⟩ => by
    have r1 : v = d := r1
    subst r1
    cases v with
    | true => exact ⟨ε, μ1, S1, sr1, hs1, h1⟩
    | false => exact ⟨ε, μ1, S1, sr1, hs1, h1⟩⟩
def dChain (o o' : Op) (a b c : Den) : Den := fun ε S => (a ε S).bind fun x S => (b ε S).bind fun y S => (o x y S).bind fun k S => match k with
  | .bl true => (c ε S).bind fun z S => o' y z S
  | .bl false => .ok (.bl false) S
  | _ => .bad
theorem chain_to {o o' : Op} {r r' : R2} (ho : ∀ (W : WX) σ μ S H x y d e Q, HS (gx X T) μ S H → RV X.K μ H x d → RV X.K μ H y e → wR (gx X T) W (rlV (gx X T)) (o d e S) σ μ H Q → r x y H Q)
    (ho' : ∀ (W : WX) σ μ S H x y d e Q, HS (gx X T) μ S H → RV X.K μ H x d → RV X.K μ H y e → wR (gx X T) W (rlV (gx X T)) (o' d e S) σ μ H Q → r' x y H Q) :
    ∀ σ H Q, tD (gx X T) W (dChain o o' da db dc) σ H Q → tChain r r' (tD (gx X T) W da) (tD (gx X T) W db) (tD (gx X T) W dc) σ H Q := fun σ H Q ⟨ε, μ, S, sr, hs, h⟩ =>
  ⟨ε, μ, S, sr, hs, (wR.bind (Rl := rlV (gx X T)) sr h).imp fun v H1 ⟨d, μ1, S1, g1, hs1, sr1, r1, h1⟩ =>
    ⟨ε, μ1, S1, sr1, hs1, (wR.bind (Rl := rlV (gx X T)) sr1 h1).imp fun w H2 ⟨e, μ2, S2, g2, hs2, sr2, r2, h2⟩ =>
      ho W σ μ2 S2 H2 v w d e _ hs2 (RV.mono g2 r1) r2 ((wR.bind (Rl := rlV (gx X T)) sr2 h2).imp fun z H3 ⟨k, μ3, S3, g3, hs3, sr3, r3, h3⟩ => by
        have r3 : RV X.K μ3 H3 z k := r3
        cases r3 with
        | bl k =>
          refine ⟨k, rfl, ?_⟩
          cases k with
          | true => exact ⟨ε, μ3, S3, sr3, hs3, (wR.bind (Rl := rlV (gx X T)) sr3 h3).imp fun u H4 ⟨f, μ4, S4, g4, hs4, sr4, r4, h4⟩ => ho' W σ μ4 S4 H4 w u e f _ hs4 (RV.mono (g3.trans g4) r2) r4 h4⟩
          | false => exact wR.here hs3 h3 (.bl _)
        | _ => exact h3.elim)⟩⟩
theorem pd_chain {op op' : CmpOp} {o o' : Op} (ho : OpD X T (compareOp op) o) (ho' : OpD X T (compareOp op') o') (ha : PE X a (tD (gx X T) W da)) (hb : PE X b (tD (gx X T) W db)) (hc : PE X c (tD (gx X T) W dc))
    (hm : lastMarks [op, op'] [b, c] = false := by with_unfolding_all rfl) : PE X (.Compare a [op, op'] [b, c] pos) (tD (gx X T) W (dChain o o' da db dc)) := by
  obtain ⟨r, hr, q⟩ := ho
  obtain ⟨r', hr', q'⟩ := ho'
  exact (pe_chain hr hr' ha hb hc hm).imp (chain_to q q')
theorem ptd_chain {op op' : CmpOp} {o o' : Op} (ho : OpD X T (compareOp op) o) (ho' : OpD X T (compareOp op') o') (ha : PE X a (tD (gx X T) W da)) (hb : PE X b (tD (gx X T) W db)) (hc : PE X c (tD (gx X T) W dc))
    (hm : lastMarks [op, op'] [b, c] = false := by with_unfolding_all rfl) : PT X (.Compare a [op, op'] [b, c] pos) (tDB (gx X T) W (dTest (dChain o o' da db dc))) := by
  obtain ⟨r, hr, q⟩ := ho
  obtain ⟨r', hr', q'⟩ := ho'
  exact (pt_chain hr hr' ha hb hc hm).imp (test_to (chain_to q q'))
end
end
end DL
namespace DL
open PySem L2
section
variable {X : Cx} {T : Gt} {W : WX}
abbrev Fn := List D → Sto → R D
def CallD (X : Cx) (T : Gt) (f : Value) (o : Fn) : Prop :=
  ∃ r, CallR X f r ∧ ∀ (W : WX) σ μ S H vs ds Q, HS (gx X T) μ S H → RVs X.K μ H vs ds → wR (gx X T) W (rlV (gx X T)) (o ds S) σ μ H Q → r vs H Q
def dFn (o : Fn) (a : DenA) : Den := fun ε S => (a ε S).bind fun ds S => o ds S
theorem fn_to {o : Fn} {r : List V → Hp → VK → Prop} {a : DenA} (ho : ∀ (W : WX) σ μ S H vs ds Q, HS (gx X T) μ S H → RVs X.K μ H vs ds → wR (gx X T) W (rlV (gx X T)) (o ds S) σ μ H Q → r vs H Q) :
    ∀ σ H Q, tD (gx X T) W (dFn o a) σ H Q → tCB r (tDA (gx X T) W a) σ H Q := fun σ H Q ⟨ε, μ, S, sr, hs, h⟩ =>
  ⟨ε, μ, S, sr, hs, (wR.bind (Rl := rlA (gx X T)) sr h).imp fun v H1 ⟨d, μ1, S1, g1, hs1, sr1, r1, h1⟩ => ho W σ μ1 S1 H1 v d Q hs1 r1 h1⟩
theorem pd_callB {x : Str} {p pos : Pos} {e : Expr} {es : List Expr} {a : DenA} {id : String} {o : Fn} (ho : CallD X T (.builtin id) o) (hg : Gl X x) (hm : X.mg x = none) (hb : bootBuiltins x = some (.builtin id)) (ha : PA X (e :: es) (tDA (gx X T) W a))
    (hn : x ≠ "__name__" := by decide) (hd : (x == ("__debug__" : Str)) = false := by decide) (he : starEach (e :: es) X.env = (false, eval e X.env) :: starEach es X.env := by rfl) (hpl : (backTo pos (starEach es X.env)).any (·.1) = false := by rfl) :
    PE X (.Call (.Name x p) (e :: es) [] pos) (tD (gx X T) W (dFn o a)) := by
  obtain ⟨r, hr, q⟩ := ho
  exact (pe_callB hr hg hm hb ha hn hd he hpl).imp (fn_to q)
theorem pd_callTy {x : Str} {p pos : Pos} {e : Expr} {es : List Expr} {a : DenA} {id : String} {o : Fn} (ho : CallD X T (.type id) o) (hg : Gl X x) (hm : X.mg x = none) (hb : bootBuiltins x = some (.type id)) (ha : PA X (e :: es) (tDA (gx X T) W a))
    (hn : x ≠ "__name__" := by decide) (hd : (x == ("__debug__" : Str)) = false := by decide) (he : starEach (e :: es) X.env = (false, eval e X.env) :: starEach es X.env := by rfl) (hpl : (backTo pos (starEach es X.env)).any (·.1) = false := by rfl) :
    PE X (.Call (.Name x p) (e :: es) [] pos) (tD (gx X T) W (dFn o a)) := by
  obtain ⟨r, hr, q⟩ := ho
  exact (pe_callTy hr hg hm hb ha hn hd he hpl).imp (fn_to q)
theorem one_of {K : PySem.W.Frag} {μ : List Addr} {H : Hp} {vs : List V} {d : D} (r : RVs K μ H vs [d]) : ∃ v, vs = [v] ∧ RV K μ H v d := by
  cases r with
  | cons h t => cases t; exact ⟨_, rfl, h⟩
theorem two_of {K : PySem.W.Frag} {μ : List Addr} {H : Hp} {vs : List V} {d e : D} (r : RVs K μ H vs [d, e]) : ∃ v w, vs = [v, w] ∧ RV K μ H v d ∧ RV K μ H w e := by
  cases r with
  | cons h t =>
    obtain ⟨w, rfl, r⟩ := one_of t
    exact ⟨_, _, rfl, h, r⟩
def fLen : Fn := fun ds S => match ds with
  | [.str z] => if z.length ≤ big then .ok (.int z.length) S else .bad
  | [d] => (match items S d with
    | some xs => .ok (.int xs.length) S
    | none => .bad)
  | _ => .bad
theorem cd_len : CallD X T (.builtin "len") fLen := by
  refine ⟨_, call_len, fun W σ μ S H vs ds Q hs r h => ?_⟩
  unfold fLen at h
  split at h
  · split at h
    · obtain ⟨v, rfl, r1⟩ := one_of r
      cases r1
      exact ⟨.str _, _, rfl, ⟨big_ok ‹_›, rfl⟩, wR.here hs h (.int _)⟩
    · exact h.elim
  · split at h
    · obtain ⟨v, rfl, r1⟩ := one_of r
      obtain ⟨a, xs, rfl, hq, rs⟩ := items_of hs r1 ‹_›
      refine ⟨.ref a, xs.length, rfl, ?_, ?_⟩
      · rcases hq with hq | hq
        · exact .inl ⟨_, hq, rfl⟩
        · exact .inr ⟨_, hq, rfl⟩
      · rw [rs.length]
        exact wR.here hs h (.int _)
    · exact h.elim
  · exact h.elim
def fInt : Fn := fun ds S => match ds with
  | [.int i] => .ok (.int i) S
  | [.bl b] => .ok (.int (if b then 1 else 0)) S
  | _ => .bad
def fTuple : Fn := fun ds S => match ds with
  | [d] => (match items S d with
    | some xs => .ok (.tup xs) S
    | none => .bad)
  | _ => .bad
theorem cd_tuple : CallD X T (.type "tuple") fTuple := by
  refine ⟨_, call_tupleB, fun W σ μ S H vs ds Q hs r h => ?_⟩
  unfold fTuple at h
  split at h
  · split at h
    · rename_i d xs0 he
      obtain ⟨v, rfl, r1⟩ := one_of r
      cases r1 with
      | tup t bt rs =>
        cases he
        exact ⟨_, _, rfl, .inr ⟨t.sq, wR.here hs h (.tup t bt rs)⟩⟩
      | seq t rs =>
        cases he
        exact ⟨_, _, rfl, .inl ⟨t.sq, newT_of hs rs h⟩⟩
      | ref q =>
        simp only [items] at he
        split at he
        · cases he
          obtain ⟨a, xs, ev, ea, ha, ra⟩ := hs.lst (RV.ref q) ‹_›
          cases ev
          exact ⟨_, _, rfl, .inl ⟨.inl (.inl ha), newT_of hs ra h⟩⟩
        · cases he
      | _ => cases he
    · exact h.elim
  · exact h.elim
def litems (S : Sto) : D → Option (List D)
  | .seq ds => some ds
  | .ref n => match S[n]? with
    | some (.lst ds) => some ds
    | _ => none
  | _ => none
theorem litems_of {G : Gc} {μ : List Addr} {S : Sto} {H : Hp} (hs : HS G μ S H) {v : V} {d : D} {ds : List D} (r : RV G.K μ H v d) (e : litems S d = some ds) : ∃ a xs, v = .ref a ∧ SqL G.K H a xs ∧ RVs G.K μ H xs ds := by
  cases r with
  | seq t rs => cases e; exact ⟨_, _, rfl, t.sq, rs⟩
  | ref q =>
    simp only [litems] at e
    split at e
    · cases e
      obtain ⟨a, xs, ev, ea, ha, ra⟩ := hs.lst (RV.ref q) ‹_›
      exact ⟨a, xs, ev, .inl (.inl ha), ra⟩
    · cases e
  | _ => cases e
def intD : D → Option Int
  | .int i => some i
  | _ => none
def blD : D → Option Bool
  | .bl i => some i
  | _ => none
theorem fall_ints {ds : List D} {ns : List Int} (h : fall intD ds = some ns) : ds = ns.map D.int := by
  induction ds generalizing ns with
  | nil => cases h; rfl
  | cons d ds ih =>
    unfold fall at h
    split at h
    · cases h
      rename_i b s h1 h2
      rw [ih h2]
      cases d <;> cases h1
      rfl
    · cases h
theorem fall_bls {ds : List D} {ns : List Bool} (h : fall blD ds = some ns) : ds = ns.map D.bl := by
  induction ds generalizing ns with
  | nil => cases h; rfl
  | cons d ds ih =>
    unfold fall at h
    split at h
    · cases h
      rename_i b s h1 h2
      rw [ih h2]
      cases d <;> cases h1
      rfl
    · cases h
def fLst (f : List D → Sto → R D) : Fn := fun ds S => match ds with
  | [d] => (match litems S d with
    | some xs => f xs S
    | none => .bad)
  | _ => .bad
def fSum : Fn := fLst fun xs S => match fall intD xs with
  | some ns => .ok (.int ns.sum) S
  | none => .bad
theorem cd_sum (hc : X.calm = true) : CallD X T (.builtin "sum") fSum := by
  refine ⟨_, cr_sum hc, fun W σ μ S H vs ds Q hs r h => ?_⟩
  unfold fSum fLst at h
  split at h
  · split at h
    · dsimp only at h
      split at h
      · rename_i he _ ns hn
        obtain ⟨v, rfl, r1⟩ := one_of r
        obtain ⟨a, xs, rfl, hq, rs⟩ := litems_of hs r1 he
        rw [fall_ints hn] at rs
        rw [rs.ints] at hq
        exact ⟨_, _, rfl, hq, wR.here hs h (.int _)⟩
      · exact h.elim
    · exact h.elim
  · exact h.elim
def fAll : Fn := fLst fun xs S => match fall blD xs with
  | some ns => .ok (.bl (ns.all id)) S
  | none => .bad
theorem cd_all (hc : X.calm = true) : CallD X T (.builtin "all") fAll := by
  refine ⟨_, cr_all hc, fun W σ μ S H vs ds Q hs r h => ?_⟩
  unfold fAll fLst at h
  split at h
  · split at h
    · dsimp only at h
      split at h
      · rename_i he _ ns hn
        obtain ⟨v, rfl, r1⟩ := one_of r
        obtain ⟨a, xs, rfl, hq, rs⟩ := litems_of hs r1 he
        rw [fall_bls hn] at rs
        rw [rs.bls] at hq
        exact ⟨_, _, rfl, hq, wR.here hs h (.bl _)⟩
      · exact h.elim
    · exact h.elim
  · exact h.elim
def tyD (S : Sto) : D → Option String
  | .non => some "NoneType"
  | .bl _ => some "bool"
  | .int _ => some "int"
  | .str _ => some "str"
  | .tup _ => some "tuple"
  | .seq _ => some "list"
  | .ref n => match S[n]? with
    | some (.lst _) => some "list"
    | some (.dct _) => some "dict"
    | _ => none
theorem ty_of {G : Gc} {μ : List Addr} {S : Sto} {H : Hp} (hs : HS G μ S H) {v : V} {d : D} {t : String} (r : RV G.K μ H v d) (e : tyD S d = some t) : TyX G.K H v (.type t) := by
  cases r with
  | non => cases e; exact .base .non
  | bl b => cases e; exact .base (.bl b)
  | int i => cases e; exact .base (.int i)
  | str x => cases e; exact .base (.str x)
  | tup t _ rs =>
    cases e
    rcases t.2 with q | ⟨o, q⟩
    · exact .base (.tup q)
    · exact .fTuple q
  | seq t rs =>
    cases e
    rcases t with ⟨_, o, t⟩ | ⟨o, its, n, h1, h2, _⟩
    · exact .base (.frz t)
    · exact .kList h1 h2
  | ref q =>
    simp only [tyD] at e
    split at e
    · cases e
      obtain ⟨a, xs, ev, ea, ha, ra⟩ := hs.lst (RV.ref q) ‹_›
      cases ev
      exact .base (.lst ha)
    · cases e
      obtain ⟨a, xs, ev, ea, ha, ra⟩ := hs.dct (RV.ref q) ‹_›
      cases ev
      exact .base (.dK ha)
    · cases e
def isiD (c : String) (S : Sto) (d : D) : Option Bool := match tyD S d with
  | some t => kitB t c
  | none => none
def dIsi (c : String) (a : Den) : Den := fun ε S => (a ε S).bind fun d S => match isiD c S d with
  | some b => .ok (.bl b) S
  | none => .bad
theorem pd_isi {c : String} {y : Str} {e : Expr} {a : Den} {p p2 pos : Pos} (hg : Gl X "isinstance") (hm : X.mg "isinstance" = none) (hgy : Gl X y) (hmy : X.mg y = none) (hb : bootBuiltins "isinstance" = some (.builtin "isinstance")) (hby : bootBuiltins y = some (.type c))
    (ha : PE X e (tD (gx X T) W a)) (hny : y ≠ "__name__" := by decide) (hdy : (y == ("__debug__" : Str)) = false := by decide)
    (he : starEach [e, .Name y p2] X.env = (false, eval e X.env) :: starEach [.Name y p2] X.env := by rfl) (hpl : (backTo pos (starEach [.Name y p2] X.env)).any (·.1) = false := by rfl) :
    PE X (.Call (.Name "isinstance" p) [e, .Name y p2] [] pos) (tD (gx X T) W (dIsi c a)) := by
  refine (pe_callB call_isi hg hm hb (pa_cons ha (pa_cons (pe_bltn (v := .ty c) (u := .type c) hgy hmy hby rfl hny hdy) pa_nil) he) (by decide) (by decide) he hpl).imp fun σ H Q ⟨ε, μ, S, sr, hs, h⟩ => ?_
  refine ⟨ε, μ, S, sr, hs, (wR.bind (Rl := rlV (gx X T)) sr h).imp fun v H1 ⟨d, μ1, S1, g1, hs1, sr1, r1, h1⟩ => ?_⟩
  split at h1
  · rename_i b hb'
    unfold isiD at hb'
    split at hb'
    · rename_i t ht
      exact ⟨_, _, _, _, b, rfl, .ty c, ty_of hs1 r1 ht, kit_ty hb', wR.here hs1 h1 (.bl _)⟩
    · cases hb'
  · exact h1.elim
end
end DL
namespace L2
open PySem PySem.Spec PyProof.Rows
section
variable {X : Cx} {CX : CXT} {k : Nat} {f C : Addr} {fd : FuncData} {ps : List Str} {sp : Sp} {E : St → XK} {x m : Str} {p pos apos : Pos} {e o : Expr} {es : List Expr} {ta : TE} {t : TA}
def tMethW (C : Addr) (m : Str) (sp : Sp) (E : St → XK) (ta : TE) (t : TA) : TE := fun σ H Q => ta σ H fun x H1 => ∃ a dx fs, x = .ref a ∧ H1 a = some (.ins C dx fs) ∧ fs.lookup m = none ∧
  t σ H1 fun vs H2 => sp (x :: vs) H2 Q (E σ)
theorem pe_methW {pl : Sem Bool} (he : PE X o ta) (c : Cls X.K C) (hm : Meth X.K C m f) (F : FnOk X.prog X.w X.K X.mg X.base CX k f fd ps sp) (hr : Room k X.A) (hb : Binds X.K fd ps []) (hx : ∀ σ, PassesAt CX X σ (E σ)) (ha : PA X (e :: es) t)
    (hst : starEach (e :: es) X.env = (false, eval e X.env) :: starEach es X.env := by rfl) (hpl : (backTo pos (starEach es X.env)).any (·.1) = false := by rfl)
    (ht : eval (.Call (.Attribute o m apos) (e :: es) [] pos) X.env = (do
      let ov ← eval o X.env
      standAt apos.atName
      let (f, first) ← holding [ov] (getMethod ov m pl)
      callWith pos f first (backTo pos (starEach (e :: es) X.env)) (backToKw pos (keywordEach [] X.env))) := by rfl) :
    PE X (.Call (.Attribute o m apos) (e :: es) [] pos) (tMethW C m sp E ta t) := by
  refine ⟨fun pins s σ H Q I h => ?_⟩
  refine PySem.W.methodCall_KW (pl := pl) (thn (he.run pins s σ H _ I h) fun u s1 ⟨x, H1, I1, rx, a, dx, fs, ex, ea, l, q⟩ => ?_) ht
  subst ex
  obtain rfl : u = Value.ref a := rx
  refine getmeth_ok I1 ea c hm l ?_
  refine PySem.W.callWith_K (first := [.ref a]) (h₀ := X.base) I.ok.mod.kin hm.kp (thn (ha.run pos pins s1 σ H1 _ I1 q) fun us s2 ⟨vs, H2, I2, r, q2⟩ => ⟨I2.kIn, ?_⟩) hst hpl
  exact run_fnS (us := .ref a :: us) (vs := .ref a :: vs) F hr hb (hx σ) I2 (.cons rfl r) q2
def tMethW0 (C : Addr) (m : Str) (sp : Sp) (E : St → XK) (ta : TE) : TE := fun σ H Q => ta σ H fun x H1 => ∃ a dx fs, x = .ref a ∧ H1 a = some (.ins C dx fs) ∧ fs.lookup m = none ∧ sp [x] H1 Q (E σ)
theorem pe_methW0 {pl : Sem Bool} (he : PE X o ta) (c : Cls X.K C) (hm : Meth X.K C m f) (F : FnOk X.prog X.w X.K X.mg X.base CX k f fd ps sp) (hr : Room k X.A) (hb : Binds X.K fd ps []) (hx : ∀ σ, PassesAt CX X σ (E σ))
    (ht : eval (.Call (.Attribute o m apos) [] [] pos) X.env = (do
      let ov ← eval o X.env
      standAt apos.atName
      let (f, first) ← holding [ov] (getMethod ov m pl)
      callWith pos f first (backTo pos (starEach [] X.env)) (backToKw pos (keywordEach [] X.env))) := by rfl) :
    PE X (.Call (.Attribute o m apos) [] [] pos) (tMethW0 C m sp E ta) := by
  refine ⟨fun pins s σ H Q I h => ?_⟩
  refine PySem.W.methodCall_KW (pl := pl) (thn (he.run pins s σ H _ I h) fun u s1 ⟨x, H1, I1, rx, a, dx, fs, ex, ea, l, q⟩ => ?_) ht
  subst ex
  obtain rfl : u = Value.ref a := rx
  refine getmeth_ok I1 ea c hm l ?_
  exact PySem.W.callWith_K0 (first := [.ref a]) I1.kIn hm.kp (run_fnS (us := [.ref a]) (vs := [.ref a]) F hr hb (hx σ) I1 (.cons rfl .nil) q)
def tMakeW (C : Addr) (sp : Sp) (E : St → XK) (t : TA) : TE := fun σ H Q => t σ H fun vs H1 => ∀ x dx, H1 x = none → H1 dx = none → dx ≠ x →
  sp (.ref x :: vs) (upd (upd H1 dx (.own x)) x (.ins C dx [])) (fun v H2 => v = .non ∧ Q (.ref x) H2) (E σ)
theorem run_makeW {pins : List (Addr × Obj)} {σ : St} {H : Hp} {s : Shared} {Q : VK} {us : List Value} {vs : List V} (M : Mk X.K C f) (F : FnOk X.prog X.w X.K X.mg X.base CX k f fd ps sp) (hr : Room (k + 1) X.A) (hb : Binds X.K fd ps [])
    (hx : PassesAt CX X σ (E σ)) (I : Inv X pins σ H s) (r : Vals vs us)
    (h : ∀ x dx, H x = none → H dx = none → dx ≠ x → sp (.ref x :: vs) (upd (upd H dx (.own x)) x (.ins C dx [])) (fun v H2 => v = .non ∧ Q (.ref x) H2) (E σ)) :
    wpAny (model X.prog X.w) X.A (call (.ref C) us) (EP X pins σ Q) X.xe s := by
  have hq := h (s.heap.objs.size + 1) s.heap.objs.size (I.hok.fresh (Nat.le_succ _)) (I.hok.fresh (Nat.le_refl _)) (Nat.ne_of_lt (Nat.lt_succ_self _))
  have I2 := Inv.made (C := C) I
  have r2 : Vals (V.ref (s.heap.objs.size + 1) :: vs) (Value.ref (s.heap.objs.size + 1) :: us) := .cons rfl r
  have hl : (Value.ref (s.heap.objs.size + 1) :: us).length = ps.length := by
    have e := r2.length
    rw [F.len _ _ _ _ hq] at e
    exact e.symm
  have b := hb _ (Value.ref (s.heap.objs.size + 1) :: us) I2.kIn (by rw [List.append_nil]; exact hl)
  rw [List.append_nil] at b
  refine wpAny_call (make_map (f := f) I.kIn M.makes M.init (beq_iff_eq.mp M.fn) (codeAny_mono (F.run _ X.stack _ _ ⟨Value.ref (s.heap.objs.size + 1) :: us, []⟩ (Value.ref (s.heap.objs.size + 1) :: us) _ _ (E σ) (hr.make C us [])
    (I2.env0.make C us []) b r2 hq) fun r s' hq' => ?_))
  cases r with
  | error e => exact hx pins _ _ e s' I2 hq'
  | ok fl =>
    cases fl with
    | ret u =>
      obtain ⟨v, H', I3, rv, ev, q3⟩ := I2.after hq'
      subst ev
      exact ⟨rv, ⟨V.ref (s.heap.objs.size + 1), H', I3, rfl, q3⟩⟩
    | next => exact False.elim hq'
    | brk => exact False.elim hq'
    | cont => exact False.elim hq'
theorem pe_makeW (M : Mk X.K C f) (F : FnOk X.prog X.w X.K X.mg X.base CX k f fd ps sp) (hr : Room (k + 1) X.A) (hg : Gl X x) (hm : X.mg x = some (.ref C)) (hb : Binds X.K fd ps []) (hx : ∀ σ, PassesAt CX X σ (E σ))
    (ha : PA X (e :: es) t) (hdb : (x == ("__debug__" : Str)) = false := by decide) (he : starEach (e :: es) X.env = (false, eval e X.env) :: starEach es X.env := by rfl) (hpl : (backTo pos (starEach es X.env)).any (·.1) = false := by rfl) :
    PE X (.Call (.Name x p) (e :: es) [] pos) (tMakeW C sp E t) := by
  refine ⟨fun pins s σ H Q I h => ?_⟩
  refine wpAny_Call_Name_kw (ld_glob I hg hm ?_ hdb)
  refine PySem.W.callWith_K (h₀ := X.base) I.ok.mod.kin M.kp (thn (ha.run pos pins s σ H _ I h) fun us s1 ⟨vs, H1, I1, r, q⟩ => ⟨I1.kIn, ?_⟩) he hpl
  exact run_makeW M F hr hb (hx σ) I1 r q
end
end L2
namespace DL
open PySem L2
section
variable {X : Cx} {T : Gt} {W : WX}
def valD {κ : Type} [DecidableEq κ] (kvs : List (κ × D)) (k : κ) : Option D := (kvs.find? fun kv => decide (kv.1 = k)).map (·.2)
def putD {κ : Type} [DecidableEq κ] (kvs : List (κ × D)) (k : κ) (v : D) : List (κ × D) :=
  if (kvs.any fun kv => decide (kv.1 = k)) = true then kvs.map (fun kv => if kv.1 = k then (kv.1, v) else kv) else kvs ++ [(k, v)]
section
variable {κ : Type} [DecidableEq κ] {K : PySem.W.Frag} {μ : List Addr} {H : Hp}
theorem RKs.val {ws : List (κ × V)} {ds : List (κ × D)} (r : RKs K μ H ws ds) (k : κ) : (valV ws k = none ∧ valD ds k = none) ∨ ∃ v d, valV ws k = some v ∧ valD ds k = some d ∧ RV K μ H v d := by
  induction r with
  | nil => exact .inl ⟨rfl, rfl⟩
  | @cons k' v vs d ds h t ih =>
    by_cases e : k' = k
    · exact .inr ⟨v, d, by simp [valV, List.find?_cons, e], by simp [valD, List.find?_cons, e], h⟩
    · have e1 : valV ((k', v) :: vs) k = valV vs k := by simp [valV, List.find?_cons, e]
      have e2 : valD ((k', d) :: ds) k = valD ds k := by simp [valD, List.find?_cons, e]
      rw [e1, e2]
      exact ih
theorem RKs.any {ws : List (κ × V)} {ds : List (κ × D)} (r : RKs K μ H ws ds) (k : κ) : (ws.any fun kv => decide (kv.1 = k)) = (ds.any fun kv => decide (kv.1 = k)) := by
  induction r with
  | nil => rfl
  | cons h t ih => rw [List.any_cons, List.any_cons, ih]
theorem RKs.append {ws ws' : List (κ × V)} {ds ds' : List (κ × D)} (r : RKs K μ H ws ds) (r' : RKs K μ H ws' ds') : RKs K μ H (ws ++ ws') (ds ++ ds') := by
  induction r with
  | nil => exact r'
  | cons h t ih => exact .cons h ih
theorem RKs.mapPut {ws : List (κ × V)} {ds : List (κ × D)} (r : RKs K μ H ws ds) (k : κ) {v : V} {d : D} (rv : RV K μ H v d) : RKs K μ H (ws.map fun kv => if kv.1 = k then (kv.1, v) else kv) (ds.map fun kv => if kv.1 = k then (kv.1, d) else kv) := by
  induction r with
  | nil => exact .nil
  | @cons k' v' vs d' ds h t ih =>
    rw [List.map_cons, List.map_cons]
    by_cases e : k' = k
    · simp only [e, if_true]
      exact .cons rv ih
    · simp only [e, if_false]
      exact .cons h ih
theorem RKs.put {ws : List (κ × V)} {ds : List (κ × D)} (r : RKs K μ H ws ds) (k : κ) {v : V} {d : D} (rv : RV K μ H v d) : RKs K μ H (putK ws k v) (putD ds k d) := by
  unfold putK putD
  rw [r.any k]
  split
  · exact r.mapPut k rv
  · exact r.append (.cons rv .nil)
end
def keyD : D → Option Key
  | .int i => some (.inl i)
  | .str x => some (.inr x)
  | _ => none
theorem key_of {K : PySem.W.Frag} {μ : List Addr} {H : Hp} {v : V} {d : D} {k : Key} (r : RV K μ H v d) (e : keyD d = some k) : v = kV k := by
  cases r <;> cases e <;> rfl
def dctAt (S : Sto) : D → Option (Nat × List (Key × D))
  | .ref n => match S[n]? with
    | some (.dct kvs) => some (n, kvs)
    | _ => none
  | _ => none
theorem dctAt_of {G : Gc} {μ : List Addr} {S : Sto} {H : Hp} (hs : HS G μ S H) {v : V} {d : D} {n : Nat} {kvs : List (Key × D)} (r : RV G.K μ H v d) (e : dctAt S d = some (n, kvs)) : ∃ a ws, v = .ref a ∧ μ[n]? = some a ∧ H a = some (.dK ws) ∧ RKs G.K μ H ws kvs := by
  cases r with
  | ref q =>
    simp only [dctAt] at e
    split at e
    · cases e
      exact hs.dct (RV.ref q) ‹_›
    · cases e
  | _ => cases e
def dGetI (a b : Den) : Den := fun ε S => (a ε S).bind fun d S => (b ε S).bind fun k S => match dctAt S d, keyD k with
  | some (_, kvs), some k => (match valD kvs k with
    | some v => .ok v S
    | none => .bad)
  | _, _ => .bad
def dGet2 (a b c : Den) : Den := fun ε S => (a ε S).bind fun d S => match dctAt S d with
  | some _ => (b ε S).bind fun k S => (c ε S).bind fun x S => (match dctAt S d, keyD k with
    | some (_, kvs), some k => .ok ((valD kvs k).getD x) S
    | _, _ => .bad)
  | none => .bad
theorem pd_dget {o i : Expr} {a b : Den} {pos : Pos} (hu : X.A.units + 1 < cLine) (ha : PE X o (tD (gx X T) W a)) (hb : PE X i (tD (gx X T) W b)) (hn : NoSl i := by exact fun _ _ => rfl) : PE X (.Subscript o i pos) (tD (gx X T) W (dGetI a b)) :=
  (pe_dget hu ha hb hn).imp fun σ H Q ⟨ε, μ, S, sr, hs, h⟩ => ⟨ε, μ, S, sr, hs, (wR.bind (Rl := rlV (gx X T)) sr h).imp fun v H1 ⟨d, μ1, S1, g1, hs1, sr1, r1, h1⟩ =>
    ⟨ε, μ1, S1, sr1, hs1, (wR.bind (Rl := rlV (gx X T)) sr1 h1).imp fun w H2 ⟨e, μ2, S2, g2, hs2, sr2, r2, h2⟩ => by
      split at h2
      · rename_i n kvs k hd hk
        split at h2
        · rename_i x hv
          obtain ⟨p, ws, rfl, en, hp, rk⟩ := dctAt_of hs2 (RV.mono g2 r1) hd
          have ek := key_of r2 hk
          subst ek
          rcases rk.val k with ⟨_, q⟩ | ⟨v', d', q1, q2, q3⟩
          · rw [hv] at q
            cases q
          · rw [hv] at q2
            cases q2
            refine ⟨p, v', rfl, ?_, wR.here hs2 h2 q3⟩
            rw [← q1]
            exact DGet.k hp
        · exact h2.elim
      · exact h2.elim⟩⟩
theorem pd_get2 {o e f : Expr} {a b c : Den} {apos cpos : Pos} (hu : X.A.units + 1 < cLine) (ha : PE X o (tD (gx X T) W a)) (hb : PE X e (tD (gx X T) W b)) (hc : PE X f (tD (gx X T) W c)) (m : M2 X o "get" apos e f cpos := by exact ⟨rfl, rfl, rfl, rfl⟩) :
    PE X (.Call (.Attribute o "get" apos) [e, f] [] cpos) (tD (gx X T) W (dGet2 a b c)) :=
  (pe_dget2 hu ha hb hc m).imp fun σ H Q ⟨ε, μ, S, sr, hs, h⟩ => ⟨ε, μ, S, sr, hs, (wR.bind (Rl := rlV (gx X T)) sr h).imp fun v H1 ⟨d, μ1, S1, g1, hs1, sr1, r1, h1⟩ => by
    split at h1
    · rename_i z hd1
      obtain ⟨n1, kvs1⟩ := z
      obtain ⟨p, ws, rfl, en, hp, rk⟩ := dctAt_of hs1 r1 hd1
      refine ⟨p, rfl, .inl ⟨ws, .inl hp⟩, ε, μ1, S1, sr1, hs1, (wR.bind (Rl := rlV (gx X T)) sr1 h1).imp fun w H2 ⟨e, μ2, S2, g2, hs2, sr2, r2, h2⟩ =>
        ⟨ε, μ2, S2, sr2, hs2, (wR.bind (Rl := rlV (gx X T)) sr2 h2).imp fun u H3 ⟨g, μ3, S3, g3, hs3, sr3, r3, h3⟩ => ?_⟩⟩
      split at h3
      · rename_i n kvs k hd hk
        obtain ⟨p', ws', ev, en', hp', rk'⟩ := dctAt_of hs3 (RV.mono (g2.trans g3) r1) hd
        cases ev
        have ek := key_of (RV.mono g3 r2) hk
        subst ek
        refine ⟨_, DGet.k hp', ?_⟩
        rcases rk'.val k with ⟨q1, q2⟩ | ⟨v', d', q1, q2, q3⟩
        · rw [q1]
          rw [q2] at h3
          exact wR.here hs3 h3 r3
        · rw [q1]
          rw [q2] at h3
          exact wR.here hs3 h3 q3
      · exact h3.elim
    · exact h1.elim⟩
def dNewK : Den := fun _ S => .ok (.ref S.length) (S ++ [.dct []])
theorem pd_dnew {pos : Pos} : PE X (.Dict [] [] pos) (tD (gx X T) W dNewK) :=
  pe_dnewK.imp fun σ H Q ⟨ε, μ, S, sr, hs, h⟩ p hp => h _ _ _ (Gr.obj hp) (hs.grow hp ⟨_, upd_same, .nil⟩) (.ref hs.last)
theorem RKs.look {K : PySem.W.Frag} {μ : List Addr} {H : Hp} {ws : List (Str × V)} {ds : List (Str × D)} (r : RKs K μ H ws ds) (f : Str) : (ws.lookup f = none ∧ ds.lookup f = none) ∨ ∃ v d, ws.lookup f = some v ∧ ds.lookup f = some d ∧ RV K μ H v d := by
  induction r with
  | nil => exact .inl ⟨rfl, rfl⟩
  | @cons k' v vs d ds h t ih =>
    by_cases e : f = k'
    · subst e
      exact .inr ⟨v, d, List.lookup_cons_self, List.lookup_cons_self, h⟩
    · have e' : (f == k') = false := beq_eq_false_iff_ne.mpr e
      rw [List.lookup_cons, List.lookup_cons, e']
      exact ih
def putFD (f : Str) (v : D) : List (Str × D) → List (Str × D)
  | [] => [(f, v)]
  | (g, x) :: r => if g = f then (g, v) :: r else (g, x) :: putFD f v r
theorem RKs.putF {K : PySem.W.Frag} {μ : List Addr} {H : Hp} {f : Str} {v : V} {d : D} (rv : RV K μ H v d) : ∀ {ws : List (Str × V)} {ds : List (Str × D)}, RKs K μ H ws ds → RKs K μ H (L2.putF f v ws) (putFD f d ds)
  | _, _, .nil => .cons rv .nil
  | (g, _) :: _, _, .cons h t => by
    unfold L2.putF putFD
    by_cases e : g = f
    · rw [if_pos e, if_pos e]
      exact .cons rv t
    · rw [if_neg e, if_neg e]
      exact .cons h (RKs.putF rv t)
def FldOk (X : Cx) (T : Gt) (f : Str) : Prop := ∀ c C, T.cA c = some C → Cls X.K C ∧ NoAttr X.K C f
def insAt (S : Sto) : D → Option (Nat × Str × List (Str × D))
  | .ref n => match S[n]? with
    | some (.ins c fs) => some (n, c, fs)
    | _ => none
  | _ => none
theorem insAt_of {G : Gc} {μ : List Addr} {S : Sto} {H : Hp} (hs : HS G μ S H) {v : V} {d : D} {n : Nat} {c : Str} {fs : List (Str × D)} (r : RV G.K μ H v d) (e : insAt S d = some (n, c, fs)) :
    ∃ a C dx ws, v = .ref a ∧ μ[n]? = some a ∧ G.cA c = some C ∧ H a = some (.ins C dx ws) ∧ RKs G.K μ H ws fs := by
  cases r with
  | ref q =>
    simp only [insAt] at e
    split at e
    · cases e
      exact hs.ins (RV.ref q) ‹_›
    · cases e
  | _ => cases e
def dFld (f : Str) (a : Den) : Den := fun ε S => (a ε S).bind fun d S => match insAt S d with
  | some (_, _, fs) => (match fs.lookup f with
    | some v => .ok v S
    | none => .bad)
  | none => .bad
theorem pd_fld {e : Expr} {f : Str} {a : Den} {pos : Pos} (hf : FldOk X T f) (ha : PE X e (tD (gx X T) W a)) (hb : attributeBase e f X.env (eval e X.env) = eval e X.env := by rfl) : PE X (.Attribute e f pos) (tD (gx X T) W (dFld f a)) :=
  (pe_fld ha hb).imp fun σ H Q ⟨ε, μ, S, sr, hs, h⟩ => ⟨ε, μ, S, sr, hs, (wR.bind (Rl := rlV (gx X T)) sr h).imp fun v H1 ⟨d, μ1, S1, g1, hs1, sr1, r1, h1⟩ => by
    split at h1
    · rename_i n c fs hd
      split at h1
      · rename_i x hx
        obtain ⟨p, C, dx, ws, rfl, en, hc, hp, rk⟩ := insAt_of hs1 r1 hd
        obtain ⟨h2, h3⟩ := hf c C hc
        rcases rk.look f with ⟨_, q⟩ | ⟨v', d', q1, q2, q3⟩
        · rw [hx] at q
          cases q
        · rw [hx] at q2
          cases q2
          exact ⟨p, C, dx, ws, v', rfl, hp, h2, h3, q1, wR.here hs1 h1 q3⟩
      · exact h1.elim
    · exact h1.elim⟩
def wF (G : Gc) (E : XK) (r : R D) (μ : List Addr) (H : Hp) (Q : VK) : Prop :=
  match r with
  | .ok d S' => ∀ v μ' H', Gr μ H μ' H' → HS G μ' S' H' → RV G.K μ' H' v d → Q v H'
  | .exc c S' => ∀ C μ' H', G.xA c = some C → Gr μ H μ' H' → HS G μ' S' H' → E (.ref C) none H'
  | .bad => False
def spD (G : Gc) (np : Nat) (F : Fn) : Sp := fun vs H Q E => ∃ μ S ds, vs.length = np ∧ HS G μ S H ∧ RVs G.K μ H vs ds ∧ wF G E (F ds S) μ H Q
theorem wR.toF {G : Gc} {r : R D} {σ : L2.St} {μ : List Addr} {H : Hp} {Q : VK} (h : wR G W (rlV G) r σ μ H Q) : wF G (WE W σ) r μ H Q := by
  cases r with
  | ok d S' => exact h
  | exc c S' => exact h
  | bad => exact h
def dCall (np : Nat) (F : Fn) (a : DenA) : Den := fun ε S => (a ε S).bind fun ds S => if ds.length = np then F ds S else .bad
theorem takes0N {X : Cx} : L2N.Takes X (fun _ _ _ _ => False) := fun _ _ x => by
  obtain ⟨_, _, _, _, _, _, _, _, _, _, _, _, _, _, _, _, z⟩ := x
  exact z.elim
abbrev CXo (X : Cx) : CXT := L2N.CX X.prog X.w
section
variable {k np : Nat} {f C : Addr} {fd : FuncData} {ps : List Str} {F : Fn} {x m c : Str} {p pos apos : Pos} {e o : Expr} {es : List Expr} {a : DenA} {da : Den}
theorem pd_call (G : FnOk X.prog X.w X.K X.mg X.base (CXo X) k f fd ps (spD (gx X T) np F)) (hr : Room k X.A) (hg : Gl X x) (hm : X.mg x = some (.ref f)) (hk : PySem.W.keepIn X.K (.ref f) = true) (hb : Binds X.K fd ps []) (tk : L2N.Takes X W)
    (ha : PA X (e :: es) (tDA (gx X T) W a)) (hdb : (x == ("__debug__" : Str)) = false := by decide) (he : starEach (e :: es) X.env = (false, eval e X.env) :: starEach es X.env := by rfl) (hpl : (backTo pos (starEach es X.env)).any (·.1) = false := by rfl) :
    PE X (.Call (.Name x p) (e :: es) [] pos) (tD (gx X T) W (dCall np F a)) :=
  (pe_callS G hr hg hm hk hb (E := WE W) (fun σ => L2N.passAt tk σ) ha hdb he hpl).imp fun σ H Q ⟨ε, μ, S, sr, hs, h⟩ => ⟨ε, μ, S, sr, hs, (wR.bind (Rl := rlA (gx X T)) sr h).imp fun vs H1 ⟨ds, μ1, S1, g1, hs1, sr1, r1, h1⟩ => by
    split at h1
    · rename_i hn
      exact ⟨μ1, S1, ds, (RVs.length r1).trans hn, hs1, r1, h1.toF⟩
    · exact h1.elim⟩
def dMeth (c m : Str) (np : Nat) (F : Fn) (o : Den) (a : DenA) : Den := fun ε S => (o ε S).bind fun d S => match insAt S d with
  | some (_, c', fs) => if c' = c ∧ fs.lookup m = none then (a ε S).bind fun ds S => (if ds.length + 1 = np then F (d :: ds) S else .bad) else .bad
  | none => .bad
theorem pd_meth {pl : Sem Bool} (ho : PE X o (tD (gx X T) W da)) (hc : T.cA c = some C) (cl : Cls X.K C) (hm : Meth X.K C m f) (G : FnOk X.prog X.w X.K X.mg X.base (CXo X) k f fd ps (spD (gx X T) np F)) (hr : Room k X.A) (hb : Binds X.K fd ps []) (tk : L2N.Takes X W)
    (ha : PA X (e :: es) (tDA (gx X T) W a))
    (hst : starEach (e :: es) X.env = (false, eval e X.env) :: starEach es X.env := by rfl) (hpl : (backTo pos (starEach es X.env)).any (·.1) = false := by rfl)
    (ht : eval (.Call (.Attribute o m apos) (e :: es) [] pos) X.env = (do
      let ov ← eval o X.env
      standAt apos.atName
      let (f, first) ← holding [ov] (getMethod ov m pl)
      callWith pos f first (backTo pos (starEach (e :: es) X.env)) (backToKw pos (keywordEach [] X.env))) := by rfl) :
    PE X (.Call (.Attribute o m apos) (e :: es) [] pos) (tD (gx X T) W (dMeth c m np F da a)) :=
  (pe_methW ho cl hm G hr hb (E := WE W) (fun σ => L2N.passAt tk σ) ha hst hpl ht).imp fun σ H Q ⟨ε, μ, S, sr, hs, h⟩ => ⟨ε, μ, S, sr, hs, (wR.bind (Rl := rlV (gx X T)) sr h).imp fun v H1 ⟨d, μ1, S1, g1, hs1, sr1, r1, h1⟩ => by
    split at h1
    · rename_i n c' fs hd
      split at h1
      · rename_i hcm
        obtain ⟨rfl, hl⟩ := hcm
        obtain ⟨p, C', dx, ws, rfl, en, hc', hp, rk⟩ := insAt_of hs1 r1 hd
        have hc'' : T.cA c' = some C' := hc'
        rw [hc] at hc''
        cases hc''
        have hwl : ws.lookup m = none := by
          rcases rk.look m with ⟨q, _⟩ | ⟨_, _, _, q, _⟩
          · exact q
          · rw [hl] at q
            cases q
        refine ⟨p, dx, ws, rfl, hp, hwl, ε, μ1, S1, sr1, hs1, (wR.bind (Rl := rlA (gx X T)) sr1 h1).imp fun vs H2 ⟨ds, μ2, S2, g2, hs2, sr2, r2, h2⟩ => ?_⟩
        split at h2
        · rename_i hn
          refine ⟨μ2, S2, d :: ds, ?_, hs2, .cons (RV.mono g2 r1) r2, h2.toF⟩
          rw [← hn, List.length_cons, RVs.length r2]
        · exact h2.elim
      · exact h1.elim
    · exact h1.elim⟩
theorem pd_meth0 {pl : Sem Bool} (ho : PE X o (tD (gx X T) W da)) (hc : T.cA c = some C) (cl : Cls X.K C) (hm : Meth X.K C m f) (G : FnOk X.prog X.w X.K X.mg X.base (CXo X) k f fd ps (spD (gx X T) 1 F)) (hr : Room k X.A) (hb : Binds X.K fd ps []) (tk : L2N.Takes X W)
    (ht : eval (.Call (.Attribute o m apos) [] [] pos) X.env = (do
      let ov ← eval o X.env
      standAt apos.atName
      let (f, first) ← holding [ov] (getMethod ov m pl)
      callWith pos f first (backTo pos (starEach [] X.env)) (backToKw pos (keywordEach [] X.env))) := by rfl) :
    PE X (.Call (.Attribute o m apos) [] [] pos) (tD (gx X T) W (dMeth c m 1 F da dNil)) :=
  (pe_methW0 ho cl hm G hr hb (E := WE W) (fun σ => L2N.passAt tk σ) ht).imp fun σ H Q ⟨ε, μ, S, sr, hs, h⟩ => ⟨ε, μ, S, sr, hs, (wR.bind (Rl := rlV (gx X T)) sr h).imp fun v H1 ⟨d, μ1, S1, g1, hs1, sr1, r1, h1⟩ => by
    split at h1
    · rename_i n c' fs hd
      split at h1
      · rename_i hcm
        obtain ⟨rfl, hl⟩ := hcm
        obtain ⟨p, C', dx, ws, rfl, en, hc', hp, rk⟩ := insAt_of hs1 r1 hd
        have hc'' : T.cA c' = some C' := hc'
        rw [hc] at hc''
        cases hc''
        have hwl : ws.lookup m = none := by
          rcases rk.look m with ⟨q, _⟩ | ⟨_, _, _, q, _⟩
          · exact q
          · rw [hl] at q
            cases q
        exact ⟨p, dx, ws, rfl, hp, hwl, μ1, S1, [d], rfl, hs1, .cons r1 .nil, wR.toF (W := W) (σ := σ) h1⟩
      · exact h1.elim
    · exact h1.elim⟩
def dMake (c : Str) (np : Nat) (F : Fn) (a : DenA) : Den := fun ε S => (a ε S).bind fun ds S => if ds.length + 1 = np then (F (.ref S.length :: ds) (S ++ [.ins c []])).bind fun d S' => (match d with
  | .non => .ok (.ref S.length) S'
  | _ => .bad) else .bad
theorem pd_make (hc : T.cA c = some C) (M : Mk X.K C f) (G : FnOk X.prog X.w X.K X.mg X.base (CXo X) k f fd ps (spD (gx X T) np F)) (hr : Room (k + 1) X.A) (hg : Gl X x) (hm : X.mg x = some (.ref C)) (hb : Binds X.K fd ps []) (tk : L2N.Takes X W)
    (ha : PA X (e :: es) (tDA (gx X T) W a)) (hdb : (x == ("__debug__" : Str)) = false := by decide) (he : starEach (e :: es) X.env = (false, eval e X.env) :: starEach es X.env := by rfl) (hpl : (backTo pos (starEach es X.env)).any (·.1) = false := by rfl) :
    PE X (.Call (.Name x p) (e :: es) [] pos) (tD (gx X T) W (dMake c np F a)) :=
  (pe_makeW M G hr hg hm hb (E := WE W) (fun σ => L2N.passAt tk σ) ha hdb he hpl).imp fun σ H Q ⟨ε, μ, S, sr, hs, h⟩ => ⟨ε, μ, S, sr, hs, (wR.bind (Rl := rlA (gx X T)) sr h).imp fun vs H1 ⟨ds, μ1, S1, g1, hs1, sr1, r1, h1⟩ y dx hy hdx hne => by
    split at h1
    · rename_i hn
      have g2 : Gr μ1 H1 μ1 (upd H1 dx (.own y)) := Gr.new hdx
      have hs2 := hs1.beside (u := .own y) hdx
      have hy2 : (upd H1 dx (.own y)) y = none := by
        rw [upd_ne (Ne.symm hne)]
        exact hy
      have g3 : Gr μ1 H1 (μ1 ++ [y]) (upd (upd H1 dx (.own y)) y (.ins C dx [])) := g2.trans (Gr.obj hy2)
      have hs3 : HS (gx X T) (μ1 ++ [y]) (S1 ++ [.ins c []]) (upd (upd H1 dx (.own y)) y (.ins C dx [])) := hs2.grow hy2 ⟨C, dx, [], hc, upd_same, .nil⟩
      have ry : RV X.K (μ1 ++ [y]) (upd (upd H1 dx (.own y)) y (.ins C dx [])) (.ref y) (.ref S1.length) := .ref hs1.last
      refine ⟨_, _, _, ?_, hs3, .cons ry (RVs.mono g3 r1), ?_⟩
      · rw [← hn, List.length_cons, RVs.length r1]
      · have h2 := wR.up g3 h1
        have h3 := wR.bind (Rl := rlV (gx X T)) (ε := ε) (sr1.mono g3) h2
        refine (h3.imp fun v H2 ⟨d, μ2, S2, g4, hs4, sr4, r4, h4⟩ => ?_).toF
        have r4 : RV X.K μ2 H2 v d := r4
        split at h4
        · cases r4
          exact ⟨rfl, wR.here hs4 h4 (RV.mono g4 ry)⟩
        · exact h4.elim
    · exact h1.elim⟩
end
end
end DL
namespace DL
open PySem L2
inductive Fl where
  | nx (ε : Env) | rt (d : D) | bk (ε : Env) | ct (ε : Env) | ex (c : Str) (ε : Env)
abbrev SDen := Env → Sto → R Fl
def wS (G : Gc) (W : WX) (r : R Fl) (μ : List Addr) (H : Hp) (N : Ends) : Prop :=
  match r with
  | .ok (.nx ε) S' => ∀ σ' μ' H', Gr μ H μ' H' → HS G μ' S' H' → SR G.K μ' H' σ' ε → N.nx σ' H'
  | .ok (.rt d) S' => ∀ v μ' H', Gr μ H μ' H' → HS G μ' S' H' → RV G.K μ' H' v d → N.rt v H'
  | .ok (.bk ε) S' => ∀ σ' μ' H', Gr μ H μ' H' → HS G μ' S' H' → SR G.K μ' H' σ' ε → N.bk σ' H'
  | .ok (.ct ε) S' => ∀ σ' μ' H', Gr μ H μ' H' → HS G μ' S' H' → SR G.K μ' H' σ' ε → N.ct σ' H'
  | .ok (.ex c ε) S' => ∀ C σ' μ' H', G.xA c = some C → Gr μ H μ' H' → HS G μ' S' H' → SR G.K μ' H' σ' ε → W (.ref C) none σ' H'
  | .exc _ _ => False
  | .bad => False
def tS (G : Gc) (W : WX) (den : SDen) : TS := fun N σ H => ∃ ε μ S, SR G.K μ H σ ε ∧ HS G μ S H ∧ wS G W (den ε S) μ H N
theorem _root_.L2.PS.imp {X : Cx} {st : Stmt} {t t' : TS} (h : PS X st t) (q : ∀ N σ H, t' N σ H → t N σ H) : PS X st t' := ⟨fun pins s σ H N I z => h.run pins s σ H N I (q _ _ _ z)⟩
theorem _root_.L2.PSs.imp {X : Cx} {st : List Stmt} {t t' : TS} (h : PSs X st t) (q : ∀ N σ H, t' N σ H → t N σ H) : PSs X st t' := ⟨fun pins s σ H N I z => h.run pins s σ H N I (q _ _ _ z)⟩
theorem _root_.L2.PG.imp {X : Cx} {e : Expr} {t t' : TG} (h : PG X e t) (q : ∀ v σ H Q, t' v σ H Q → t v σ H Q) : PG X e t' := ⟨fun pins s σ H v u Q I r z => h.run pins s σ H v u Q I r (q _ _ _ _ z)⟩
theorem _root_.L2.PGs.imp {X : Cx} {e : List Expr} {t t' : TGs} (h : PGs X e t) (q : ∀ v σ H Q, t' v σ H Q → t v σ H Q) : PGs X e t' := ⟨fun pins s σ H v u Q I r z => h.run pins s σ H v u Q I r (q _ _ _ _ z)⟩
theorem _root_.L2.PTs.imp {X : Cx} {e : List Expr} {t t' : TT} (h : PTs X e t) (q : ∀ σ H Q, t' σ H Q → t σ H Q) : PTs X e t' := ⟨fun pins s σ H Q I z => h.run pins s σ H Q I (q _ _ _ z)⟩
theorem _root_.L2.PI.imp {X : Cx} {tg e : Expr} {t t' : TI} (h : PI X tg e t) (q : ∀ σ H Q, t' σ H Q → t σ H Q) : PI X tg e t' := ⟨fun pins s σ H Q I z => h.run pins s σ H Q I (q _ _ _ z)⟩
def sE {α : Type} (r : R α) (ε : Env) (k : α → Sto → R Fl) : R Fl := match r with
  | .ok d S => k d S
  | .exc c S => .ok (.ex c ε) S
  | .bad => .bad
def sN (r : R Fl) (k : Env → Sto → R Fl) : R Fl := match r with
  | .ok (.nx ε) S => k ε S
  | r => r
section
variable {G : Gc} {W : WX} {α β : Type} {Rl : List Addr → Hp → β → α → Prop} {σ : L2.St} {ε : Env} {μ μ1 : List Addr} {H H1 : Hp} {S : Sto} {N : Ends}
theorem wS.up {r : R Fl} (g : Gr μ H μ1 H1) (h : wS G W r μ H N) : wS G W r μ1 H1 N := by
  cases r with
  | ok f S' =>
    cases f with
    | nx ε => exact fun σ' μ' H' g' => h σ' μ' H' (g.trans g')
    | rt d => exact fun σ' μ' H' g' => h σ' μ' H' (g.trans g')
    | bk ε => exact fun σ' μ' H' g' => h σ' μ' H' (g.trans g')
    | ct ε => exact fun σ' μ' H' g' => h σ' μ' H' (g.trans g')
    | ex c ε => exact fun C σ' μ' H' e g' => h C σ' μ' H' e (g.trans g')
  | exc c S' => exact h
  | bad => exact h
theorem wS.bind {r : R α} {k : α → Sto → R Fl} (sr : SR G.K μ H σ ε) (h : wS G W (sE r ε k) μ H N) :
    wR G W Rl r σ μ H fun v H1 => ∃ d μ1 S1, Gr μ H μ1 H1 ∧ HS G μ1 S1 H1 ∧ SR G.K μ1 H1 σ ε ∧ Rl μ1 H1 v d ∧ wS G W (k d S1) μ1 H1 N := by
  cases r with
  | ok d S' => exact fun v μ' H' g hs rl => ⟨d, μ', S', g, hs, sr.mono g, rl, wS.up g h⟩
  | exc c S' => exact fun C μ' H' e g hs => h C σ μ' H' e g hs (sr.mono g)
  | bad => exact h
end
section
variable {X : Cx} {T : Gt} {W : WX}
abbrev GDen := D → Env → Sto → Option Env
abbrev GDens := List D → Env → Sto → Option Env
def tG (G : Gc) (js : List Nat) (g : GDen) : TG := fun v σ H Q => ∃ ε μ S d ε', SR G.K μ H σ ε ∧ HS G μ S H ∧ RV G.K μ H v d ∧ g d ε S = some ε' ∧ ∀ σ', SR G.K μ H σ' ε' → σ'.length = σ.length → (∀ j, j ∉ js → σ'[j]? = σ[j]?) → Q σ' H
def tGs (G : Gc) (js : List Nat) (g : GDens) : TGs := fun v σ H Q => ∃ ε μ S d ε', SR G.K μ H σ ε ∧ HS G μ S H ∧ RVs G.K μ H v d ∧ g d ε S = some ε' ∧ ∀ σ', SR G.K μ H σ' ε' → σ'.length = σ.length → (∀ j, j ∉ js → σ'[j]? = σ[j]?) → Q σ' H
def gN (i : Nat) : GDen := fun d ε _ => some (ε.set i (some d))
def gsNil : GDens := fun ds ε _ => match ds with
  | [] => some ε
  | _ => none
def gsCons (g : GDen) (r : GDens) : GDens := fun ds ε S => match ds with
  | d :: ds => (g d ε S).bind fun ε => r ds ε S
  | [] => none
def gT (n : Nat) (g : GDens) : GDen := fun d ε S => match d with
  | .tup ds => if ds.length = n then g ds ε S else none
  | _ => none
theorem pgd_name (i : Nat) {x : Str} {pos : Pos} (hN : X.N.Nodup) (hi : X.N[i]? = some x := by rfl) (hx : Loc X.env.scope x := by first | exact Or.inl rfl | exact Or.inr rfl) (hf : X.fn x = true ∨ X.env.scope.names.lookup x = some .local := by first | exact .inl rfl | exact .inr rfl) : PG X (.Name x pos) (tG (gx X T) [i] (gN i)) :=
  (pg_name hN hi hx hf).imp fun v σ H Q ⟨ε, μ, S, d, ε', sr, hs, r, e, q⟩ => by
    cases e
    refine q _ (sr.set r i) (by simp) fun j hj => ?_
    rw [List.getElem?_set_ne]
    rintro rfl
    exact hj (by simp)
theorem pgd_nil : PGs X [] (tGs (gx X T) [] gsNil) := pgs_nil.imp fun v σ H Q ⟨ε, μ, S, d, ε', sr, hs, r, e, q⟩ => by
  cases r with
  | nil => cases e; exact ⟨rfl, q σ sr rfl fun _ _ => rfl⟩
  | cons _ _ => cases e
theorem pgd_cons {e : Expr} {es : List Expr} {js ks : List Nat} {g : GDen} {r : GDens} (h1 : PG X e (tG (gx X T) js g)) (h2 : PGs X es (tGs (gx X T) ks r)) (hs : (assignEach (e :: es) X.env).map (·.2) = assign e X.env :: (assignEach es X.env).map (·.2) := by rfl) :
    PGs X (e :: es) (tGs (gx X T) (js ++ ks) (gsCons g r)) := (pgs_cons h1 h2 hs).imp fun v σ H Q ⟨ε, μ, S, d, ε', sr, hs, r, e, q⟩ => by
  cases r with
  | nil => cases e
  | cons h t =>
    obtain ⟨ε1, e1, e2⟩ := Option.bind_eq_some_iff.mp e
    refine ⟨_, _, rfl, ε, μ, S, _, ε1, sr, hs, h, e1, fun σ1 sr1 l1 k1 => ?_⟩
    refine ⟨ε1, μ, S, _, ε', sr1, hs, t, e2, fun σ2 sr2 l2 k2 => q σ2 sr2 (l2.trans l1) fun j hj => ?_⟩
    rw [List.mem_append, not_or] at hj
    rw [k2 j hj.2, k1 j hj.1]
theorem pgd_tup {es : List Expr} {k n : Nat} {js : List Nat} {pos : Pos} {g : GDens} (hc : X.calm = true) (h : PGs X es (tGs (gx X T) js g)) (hn : (assignEach es X.env).length = n := by rfl) (hst : (assignEach es X.env).findIdx? (·.1) = none := by rfl) :
    PG X (.Tuple es k pos) (tG (gx X T) js (gT n g)) := (pg_tup hc h hn hst).imp fun v σ H Q ⟨ε, μ, S, d, ε', sr, hs, r, e, q⟩ => by
  unfold gT at e
  split at e
  · split at e
    · cases r with
      | tup t _ rs => exact ⟨_, _, rfl, t.sq, by rw [RVs.length rs]; assumption, ε, μ, S, _, ε', sr, hs, rs, e, q⟩
    · cases e
  · cases e
def sNil : SDen := fun ε S => .ok (.nx ε) S
def sSeq (a b : SDen) : SDen := fun ε S => sN (a ε S) b
theorem pssd_nil : PSs X [] (tS (gx X T) W sNil) := pss_nil.imp fun N σ H ⟨ε, μ, S, sr, hs, h⟩ => h σ μ H Gr.refl hs sr
theorem seq_to {a b : SDen} : ∀ N σ H, tS (gx X T) W (sSeq a b) N σ H → tSeq (tS (gx X T) W a) (tS (gx X T) W b) N σ H := fun N σ H ⟨ε, μ, S, sr, hs, h⟩ => by
  refine ⟨ε, μ, S, sr, hs, ?_⟩
  unfold sSeq at h
  cases e : a ε S with
  | ok f S' =>
    rw [e] at h
    cases f with
    | nx ε1 => exact fun σ' μ' H' g hs' sr' => ⟨ε1, μ', S', sr', hs', wS.up g h⟩
    | rt d => exact h
    | bk ε => exact h
    | ct ε => exact h
    | ex c ε => exact h
  | exc c S' => rw [e] at h; exact h
  | bad => rw [e] at h; exact h
theorem pssd_cons {st : Stmt} {rest : List Stmt} {a b : SDen} (h1 : PS X st (tS (gx X T) W a)) (h2 : PSs X rest (tS (gx X T) W b)) : PSs X (st :: rest) (tS (gx X T) W (sSeq a b)) := (pss_cons h1 h2).imp seq_to
theorem pssd_one {st : Stmt} {a : SDen} (h1 : PS X st (tS (gx X T) W a)) : PSs X [st] (tS (gx X T) W a) := pss_one h1
def sRet (a : Den) : SDen := fun ε S => sE (a ε S) ε fun d S => .ok (.rt d) S
theorem psd_ret {e : Expr} {a : Den} {pos : Pos} (ha : PE X e (tD (gx X T) W a)) : PS X (.Return (some e) pos) (tS (gx X T) W (sRet a)) :=
  (ps_ret ha).imp fun N σ H ⟨ε, μ, S, sr, hs, h⟩ => ⟨ε, μ, S, sr, hs, (wS.bind (Rl := rlV (gx X T)) sr h).imp fun v H1 ⟨d, μ1, S1, g1, hs1, sr1, r1, h1⟩ => h1 v μ1 H1 Gr.refl hs1 r1⟩
def sExpr (a : Den) : SDen := fun ε S => sE (a ε S) ε fun _ S => .ok (.nx ε) S
theorem psd_expr {e : Expr} {a : Den} {pos : Pos} (ha : PE X e (tD (gx X T) W a)) (hs : swapsWith e none pos.line X.env = pure false := by rfl) : PS X (.Expr e pos) (tS (gx X T) W (sExpr a)) :=
  (ps_expr ha hs).imp fun N σ H ⟨ε, μ, S, sr, hs, h⟩ => ⟨ε, μ, S, sr, hs, (wS.bind (Rl := rlV (gx X T)) sr h).imp fun v H1 ⟨d, μ1, S1, g1, hs1, sr1, r1, h1⟩ => h1 σ μ1 H1 Gr.refl hs1 sr1⟩
def sAsg (a : Den) (g : GDen) : SDen := fun ε S => sE (a ε S) ε fun d S => match g d ε S with
  | some ε' => .ok (.nx ε') S
  | none => .bad
theorem asg_to {te : TE} {a : Den} {js : List Nat} {g : GDen} {tg' : TG} (h0 : ∀ σ H Q, tD (gx X T) W a σ H Q → te σ H Q) (h1 : ∀ v σ H Q, tG (gx X T) js g v σ H Q → tg' v σ H Q) : ∀ N σ H, tS (gx X T) W (sAsg a g) N σ H → tAsg te tg' N σ H := fun N σ H ⟨ε, μ, S, sr, hs, h⟩ =>
  h0 _ _ _ ⟨ε, μ, S, sr, hs, (wS.bind (Rl := rlV (gx X T)) sr h).imp fun v H1 ⟨d, μ1, S1, g1, hs1, sr1, r1, h2⟩ => by
    split at h2
    · exact h1 _ _ _ _ ⟨ε, μ1, S1, d, _, sr1, hs1, r1, ‹_›, fun σ' sr' _ _ => h2 σ' μ1 H1 Gr.refl hs1 sr'⟩
    · exact h2.elim⟩
theorem psd_asg {tg e : Expr} {a : Den} {js : List Nat} {g : GDen} {pos : Pos} (ha : PE X e (tD (gx X T) W a)) (hg : PG X tg (tG (gx X T) js g)) (hs : swapsWithSole [tg] e pos.line X.env = pure false := by rfl) (hw : swappedStores [tg] e X.env = pure none := by rfl)
    (h1 : (assignEach [tg] X.env).map (·.2) = [assign tg X.env] := by rfl) : PS X (.Assign [tg] e pos) (tS (gx X T) W (sAsg a g)) :=
  (ps_asg ha hg hs hw h1).imp (asg_to (fun _ _ _ h => h) fun _ _ _ _ h => h)
def sIf (c : DenB) (a b : SDen) : SDen := fun ε S => sE (c ε S) ε fun k S => if k = true then a ε S else b ε S
theorem psd_if {c : Expr} {u v : List Stmt} {bc : DenB} {a b : SDen} {pos : Pos} (hc : PT X c (tDB (gx X T) W bc)) (ha : PSs X u (tS (gx X T) W a)) (hb : PSs X v (tS (gx X T) W b)) : PS X (.If c u v pos) (tS (gx X T) W (sIf bc a b)) :=
  (ps_if hc ha hb).imp fun N σ H ⟨ε, μ, S, sr, hs, h⟩ => ⟨ε, μ, S, sr, hs, (wS.bind (Rl := rlB) sr h).imp fun v H1 ⟨d, μ1, S1, g1, hs1, sr1, r1, h1⟩ => by
    have r1 : v = d := r1
    subst r1
    cases v with
    | true => exact ⟨ε, μ1, S1, sr1, hs1, h1⟩
    | false => exact ⟨ε, μ1, S1, sr1, hs1, h1⟩⟩
def sFldD (f : Str) (v o : Den) : SDen := fun ε S => sE (v ε S) ε fun d S => sE (o ε S) ε fun x S => match insAt S x with
  | some (n, c, fs) => if fs.length < 1000 then .ok (.nx ε) (S.set n (.ins c (putFD f d fs))) else .bad
  | none => .bad
theorem psd_fld {o value : Expr} {f : Str} {pos pos' : Pos} {v a : Den} (hf : FldOk X T f) (ho : PE X o (tD (gx X T) W a)) (hv : PE X value (tD (gx X T) W v)) (hsw : swapsWith value (some (.Attribute o f pos')) pos.line X.env = pure false := by rfl) :
    PS X (.Assign [.Attribute o f pos'] value pos) (tS (gx X T) W (sFldD f v a)) :=
  (ps_fld ho hv hsw).imp fun N σ H ⟨ε, μ, S, sr, hs, h⟩ => ⟨ε, μ, S, sr, hs, (wS.bind (Rl := rlV (gx X T)) sr h).imp fun v H1 ⟨d, μ1, S1, g1, hs1, sr1, r1, h1⟩ =>
    ⟨ε, μ1, S1, sr1, hs1, (wS.bind (Rl := rlV (gx X T)) sr1 h1).imp fun w H2 ⟨x, μ2, S2, g2, hs2, sr2, r2, h2⟩ => by
      split at h2
      · rename_i n c fs hd
        split at h2
        · obtain ⟨p, C, dx, ws, rfl, en, hc, hp, rk⟩ := insAt_of hs2 r2 hd
          obtain ⟨h3, h4⟩ := hf c C hc
          have g3 : Gr μ2 H2 μ2 (upd H2 p (.ins C dx (L2.putF f v ws))) := Gr.write (List.mem_of_getElem? en)
          refine ⟨p, C, dx, ws, rfl, hp, h3, h4, by rw [rk.length]; assumption, h2 σ μ2 _ g3 (hs2.put en ⟨C, dx, _, hc, upd_same, ?_⟩) (sr2.mono g3)⟩
          exact (rk.mono g3).putF ((RV.mono g2 r1).mono g3)
        · exact h2.elim
      · exact h2.elim⟩⟩
def whl (c : DenB) (b : SDen) : Nat → SDen
  | 0 => fun _ _ => .bad
  | m + 1 => fun ε S => sE (c ε S) ε fun k S => if k = true then (match b ε S with
    | .ok (.nx ε') S' => whl c b m ε' S'
    | .ok (.ct ε') S' => whl c b m ε' S'
    | .ok (.bk ε') S' => .ok (.nx ε') S'
    | r => r) else .ok (.nx ε) S
theorem psd_while (m : Nat) {c : Expr} {body : List Stmt} {bc : DenB} {b : SDen} {pos : Pos} (po : PassesOwn (model X.prog X.w) X.A X.env X.xe) (hc : PT X c (tDB (gx X T) W bc)) (hb : PSs X body (tS (gx X T) W b)) : PS X (.While c body [] pos) (tS (gx X T) W (whl bc b m)) :=
  (ps_while po hc hb).imp fun N σ H ⟨ε, μ, S, sr, hs, h⟩ => by
    refine ⟨fun k σ' H' => ∃ ε' μ' S', SR X.K μ' H' σ' ε' ∧ HS (gx X T) μ' S' H' ∧ wS (gx X T) W (whl bc b k ε' S') μ' H' N, ⟨m, ε, μ, S, sr, hs, h⟩, ?_⟩
    rintro k σ1 H1 ⟨ε1, μ1, S1, sr1, hs1, h1⟩
    cases k with
    | zero => exact h1.elim
    | succ k =>
      refine ⟨ε1, μ1, S1, sr1, hs1, (wS.bind (Rl := rlB) sr1 h1).imp fun v H2 ⟨d, μ2, S2, g2, hs2, sr2, r2, h2⟩ => ?_⟩
      have r2 : v = d := r2
      subst r2
      cases v with
      | false => exact h2 σ1 μ2 H2 Gr.refl hs2 sr2
      | true =>
        simp only [if_true] at h2 ⊢
        refine ⟨fun σ' H' => ∃ ε' μ' S', SR X.K μ' H' σ' ε' ∧ HS (gx X T) μ' S' H' ∧ wS (gx X T) W (whl bc b k ε' S') μ' H' N, fun σ' H' z => ⟨k, Nat.lt_succ_self k, z⟩, ε1, μ2, S2, sr2, hs2, ?_⟩
        cases e : b ε1 S2 with
        | ok f S' =>
          rw [e] at h2
          cases f with
          | nx ε3 => exact fun σ' μ' H' g hs' sr' => ⟨ε3, μ', S', sr', hs', wS.up g h2⟩
          | ct ε3 => exact fun σ' μ' H' g hs' sr' => ⟨ε3, μ', S', sr', hs', wS.up g h2⟩
          | bk ε3 => exact h2
          | rt d => exact h2
          | ex c ε => exact h2
        | exc c S' => rw [e] at h2; exact h2
        | bad => rw [e] at h2; exact h2
abbrev Src := Sto → Option (List D)
def Sim (G : Gc) (J : It) (src : Src) (μ : List Addr) (H : Hp) : Prop := ∀ i μ' H' S' ds, Gr μ H μ' H' → HS G μ' S' H' → src S' = some ds →
  (ds[i]? = none → J.stop i H') ∧ ∀ d, ds[i]? = some d → J.go i H' ∧ ∀ x H'', J.yld i H' x H'' → Gr μ' H' μ' H'' ∧ HS G μ' S' H'' ∧ RV G.K μ' H'' x d
def rlI (G : Gc) : List Addr → Hp → It → Src → Prop := fun μ H J src => Sim G J src μ H
abbrev IDen := Env → Sto → R Src
abbrev tIt (G : Gc) (W : WX) (den : IDen) : TI := tR G W (rlI G) den
theorem Sim.up {G : Gc} {J : It} {src : Src} {μ μ1 : List Addr} {H H1 : Hp} (g : Gr μ H μ1 H1) (h : Sim G J src μ H) : Sim G J src μ1 H1 := fun i μ' H' S' ds g' => h i μ' H' S' ds (g.trans g')
theorem sim_seq {G : Gc} {μ : List Addr} {S : Sto} {H : Hp} {a : Addr} {d : D} (r : RV G.K μ H (.ref a) d) : Sim G (Itl G.K a) (fun S => litems S d) μ H := fun i μ' H' S' ds g hs e => by
  obtain ⟨a', xs, ev, hq, rs⟩ := litems_of hs (r.mono g) e
  cases ev
  refine ⟨fun hn => ⟨xs, hq, ?_⟩, fun d hd => ?_⟩
  · rw [RVs.length rs]
    exact List.getElem?_eq_none_iff.mp hn
  · obtain ⟨v, hv, rv⟩ := RVs.get rs hd
    refine ⟨⟨xs, v, hq, hv⟩, fun x H'' ⟨eh, hx⟩ => ?_⟩
    subst eh
    rw [hx xs hq] at hv
    cases hv
    exact ⟨Gr.refl, hs, rv⟩
theorem sim_tup {G : Gc} {μ : List Addr} {H : Hp} {a : Addr} {ds : List D} (r : RV G.K μ H (.ref a) (.tup ds)) : Sim G (Itt G.K a) (fun _ => some ds) μ H := fun i μ' H' S' es g hs e => by
  cases e
  have r' := r.mono g
  cases r' with
  | tup t _ rs =>
    refine ⟨fun hn => ⟨_, t.sq, ?_⟩, fun d hd => ?_⟩
    · rw [RVs.length rs]
      exact List.getElem?_eq_none_iff.mp hn
    · obtain ⟨v, hv, rv⟩ := RVs.get rs hd
      refine ⟨⟨_, v, t.sq, hv⟩, fun x H'' ⟨eh, hx⟩ => ?_⟩
      subst eh
      rw [hx _ t.sq] at hv
      cases hv
      exact ⟨Gr.refl, hs, rv⟩
def iSeq (a : Den) : IDen := fun ε S => (a ε S).bind fun d S => match litems S d with
  | some _ => .ok (fun S => litems S d) S
  | none => .bad
theorem pid_seq {tg e : Expr} {a : Den} (ha : PE X e (tD (gx X T) W a)) : PI X tg e (tIt (gx X T) W (iSeq a)) :=
  (pi_list ha).imp fun σ H Q ⟨ε, μ, S, sr, hs, h⟩ => ⟨ε, μ, S, sr, hs, (wR.bind (Rl := rlV (gx X T)) sr h).imp fun v H1 ⟨d, μ1, S1, g1, hs1, sr1, r1, h1⟩ => by
    split at h1
    · obtain ⟨a, xs, rfl, hq, rs⟩ := litems_of hs1 r1 ‹_›
      exact ⟨a, rfl, ⟨xs, hq⟩, wR.here hs1 h1 (sim_seq (G := gx X T) (S := S1) r1)⟩
    · exact h1.elim⟩
def iTupD (a : Den) : IDen := fun ε S => (a ε S).bind fun d S => match d with
  | .tup ds => .ok (fun _ => some ds) S
  | _ => .bad
theorem pid_tup {tg e : Expr} {a : Den} (ha : PE X e (tD (gx X T) W a)) : PI X tg e (tIt (gx X T) W (iTupD a)) :=
  (pi_tup ha).imp fun σ H Q ⟨ε, μ, S, sr, hs, h⟩ => ⟨ε, μ, S, sr, hs, (wR.bind (Rl := rlV (gx X T)) sr h).imp fun v H1 ⟨d, μ1, S1, g1, hs1, sr1, r1, h1⟩ => by
    split at h1
    · have r2 : RV X.K μ1 H1 v (.tup _) := r1
      cases r2 with
      | tup t bt rs => exact ⟨_, rfl, ⟨_, t.sq⟩, wR.here hs1 h1 (sim_tup (G := gx X T) (.tup t bt rs))⟩
    · exact h1.elim⟩
def signs (x : Str) : List D := x.cps.toList.map fun c => .str ⟨#[c]⟩
def iSigns (a : Den) : IDen := fun ε S => (a ε S).bind fun d S => match d with
  | .str x => .ok (fun _ => some (signs x)) S
  | _ => .bad
theorem pid_str {tg e : Expr} {a : Den} (ha : PE X e (tD (gx X T) W a)) : PI X tg e (tIt (gx X T) W (iSigns a)) :=
  (pi_str ha).imp fun σ H Q ⟨ε, μ, S, sr, hs, h⟩ => ⟨ε, μ, S, sr, hs, (wR.bind (Rl := rlV (gx X T)) sr h).imp fun v H1 ⟨d, μ1, S1, g1, hs1, sr1, r1, h1⟩ => by
    split at h1
    · have r2 : RV X.K μ1 H1 v (.str _) := r1
      rename_i x
      cases r2 with
      | str =>
        refine ⟨x, rfl, wR.here hs1 h1 ?_⟩
        intro i μ' H' S' ds g hs' e
        cases e
        have ln : (signs x).length = x.cps.size := by unfold signs; rw [List.length_map, Array.length_toList]
        refine ⟨fun hn => ?_, fun d hd => ?_⟩
        · have q := List.getElem?_eq_none_iff.mp hn
          rw [ln] at q
          exact q
        · have q := (List.getElem?_eq_some_iff.mp hd).1
          rw [ln] at q
          refine ⟨q, fun y H'' ⟨eh, c, hc, ey⟩ => ?_⟩
          subst eh ey
          unfold signs at hd
          rw [List.getElem?_map, Array.getElem?_toList, hc] at hd
          cases hd
          exact ⟨Gr.refl, hs', .str _⟩
    · exact h1.elim⟩
def nums (lo : Int) (n : Nat) : List D := (List.range n).map fun (k : Nat) => D.int (lo + (k : Int))
theorem nums_len (lo : Int) (n : Nat) : (nums lo n).length = n := by unfold nums; rw [List.length_map, List.length_range]
theorem sim_range {G : Gc} {μ : List Addr} {H : Hp} (lo : Int) (n : Nat) : Sim G (Itr lo n) (fun _ => some (nums lo n)) μ H := fun i μ' H' S' ds g hs e => by
  cases e
  refine ⟨fun hn => ?_, fun d hd => ?_⟩
  · have q := List.getElem?_eq_none_iff.mp hn
    rw [nums_len] at q
    exact q
  · have q := (List.getElem?_eq_some_iff.mp hd).1
    rw [nums_len] at q
    refine ⟨q, fun y H'' ⟨eh, ey⟩ => ?_⟩
    subst eh ey
    unfold nums at hd
    rw [List.getElem?_map, List.getElem?_range q] at hd
    cases hd
    exact ⟨Gr.refl, hs, .int _⟩
def okR (i : Int) : Prop := -(2 ^ 62) ≤ i ∧ i < 2 ^ 62
instance (i : Int) : Decidable (okR i) := by unfold okR; infer_instance
def iRange1 (a : Den) : IDen := fun ε S => (a ε S).bind fun d S => match d with
  | .int j => if okR j then .ok (fun _ => some (nums 0 j.toNat)) S else .bad
  | _ => .bad
theorem pid_range1 {tg e : Expr} {a : Den} {p pos : Pos} (hg : Gl X "range") (hm : X.mg "range" = none) (ha : PE X e (tD (gx X T) W a)) (hst : starEach [e] X.env = [(false, eval e X.env)] := by rfl) : PI X tg (.Call (.Name "range" p) [e] [] pos) (tIt (gx X T) W (iRange1 a)) :=
  (pi_range1 hg hm (pa_cons ha pa_nil hst) hst).imp fun σ H Q ⟨ε, μ, S, sr, hs, h⟩ => ⟨ε, μ, S, sr, hs, (wR.bind (Rl := rlV (gx X T)) sr h).imp fun v H1 ⟨d, μ1, S1, g1, hs1, sr1, r1, h1⟩ => by
    split at h1
    · split at h1
      · rename_i hj
        have r2 : RV X.K μ1 H1 v (.int _) := r1
        cases r2
        exact ⟨_, rfl, hj.1, hj.2, wR.here hs1 h1 (sim_range 0 _)⟩
      · exact h1.elim
    · exact h1.elim⟩
def pairs : List D → List D → List D
  | a :: as, b :: bs => .tup [a, b] :: pairs as bs
  | _, _ => []
theorem pairs_get : ∀ {as bs : List D} {i : Nat} {a b : D}, as[i]? = some a → bs[i]? = some b → (pairs as bs)[i]? = some (.tup [a, b])
  | a :: as, b :: bs, 0, _, _, h1, h2 => by cases h1; cases h2; rfl
  | a :: as, b :: bs, i + 1, _, _, h1, h2 => pairs_get (as := as) (bs := bs) (by simpa using h1) (by simpa using h2)
theorem pairs_at : ∀ {as bs : List D} {i : Nat} {d : D}, (pairs as bs)[i]? = some d → ∃ a b, as[i]? = some a ∧ bs[i]? = some b ∧ d = .tup [a, b]
  | a :: as, b :: bs, 0, _, h => by cases h; exact ⟨a, b, rfl, rfl, rfl⟩
  | a :: as, b :: bs, i + 1, d, h => by
    obtain ⟨x, y, h1, h2, h3⟩ := pairs_at (as := as) (bs := bs) (i := i) (d := d) (by simpa [pairs] using h)
    exact ⟨x, y, by simpa using h1, by simpa using h2, h3⟩
  | [], _, _, _, h => by simp [pairs] at h
  | _ :: _, [], _, _, h => by simp [pairs] at h
theorem pairs_none {as bs : List D} {i : Nat} (h : (pairs as bs)[i]? = none) : as.length ≤ i ∨ bs.length ≤ i := by
  by_cases h1 : i < as.length
  · by_cases h2 : i < bs.length
    · rw [pairs_get (List.getElem?_eq_getElem h1) (List.getElem?_eq_getElem h2)] at h
      cases h
    · exact .inr (Nat.le_of_not_lt h2)
  · exact .inl (Nat.le_of_not_lt h1)
def unt : D → Bool
  | .tup ds => !txts ds
  | _ => false
def iZipD (a b : Den) : IDen := fun ε S => (a ε S).bind fun d S => (b ε S).bind fun e S => match d, e with
  | .tup xs, .tup ys => if (pairs xs ys).all unt = true then .ok (fun _ => some (pairs xs ys)) S else .bad
  | d, e => match litems S d, litems S e with
    | some _, some _ => .ok (fun S => match litems S d, litems S e with
      | some xs, some ys => if (pairs xs ys).all unt = true then some (pairs xs ys) else none
      | _, _ => none) S
    | _, _ => .bad
theorem unt_of {l : List D} (h : l.all unt = true) {i : Nat} {a b : D} (e : l[i]? = some (.tup [a, b])) : txts [a, b] = false := by
  have z := List.all_eq_true.mp h _ (List.mem_of_getElem? e)
  simpa [unt] using z
theorem pair_new {G : Gc} {μ : List Addr} {S : Sto} {H : Hp} {p : Addr} {x y : V} {d e : D} (hs : HS G μ S H) (hp : H p = none) (r1 : RV G.K μ H x d) (r2 : RV G.K μ H y e) (hu : txts [d, e] = false) :
    Gr μ H μ (upd H p (.tup [x, y])) ∧ HS G μ S (upd H p (.tup [x, y])) ∧ RV G.K μ (upd H p (.tup [x, y])) (.ref p) (.tup [d, e]) :=
  ⟨Gr.new hp, hs.beside hp, .tup ⟨hs.fresh hp, .inl upd_same⟩ (fun z => by rw [hu] at z; cases z) (.cons (r1.mono (Gr.new hp)) (.cons (r2.mono (Gr.new hp)) .nil))⟩
theorem pid_zip {e f : Expr} {a b : Den} {p pos tpos : Pos} {elts : List Expr} {kk : Nat} (hg : Gl X "zip") (hm : X.mg "zip" = none) (ha : PE X e (tD (gx X T) W a)) (hb : PE X f (tD (gx X T) W b)) (hst : starEach [e, f] X.env = (false, eval e X.env) :: starEach [f] X.env := by rfl)
    (hst2 : starEach [f] X.env = (false, eval f X.env) :: starEach [] X.env := by rfl) (hpl : (backTo pos (starEach [f] X.env)).any (·.1) = false := by rfl) : PI X (.Tuple elts kk tpos) (.Call (.Name "zip" p) [e, f] [] pos) (tIt (gx X T) W (iZipD a b)) :=
  (RZ.pi_zipA hg hm (pa_cons ha (pa_cons hb pa_nil hst2) hst) hst hpl).imp fun σ H Q ⟨ε, μ, S, sr, hs, h⟩ => ⟨ε, μ, S, sr, hs, (wR.bind (Rl := rlV (gx X T)) sr h).imp fun v H1 ⟨d, μ1, S1, g1, hs1, sr1, r1, h1⟩ =>
    ⟨ε, μ1, S1, sr1, hs1, (wR.bind (Rl := rlV (gx X T)) sr1 h1).imp fun w H2 ⟨e, μ2, S2, g2, hs2, sr2, r2, h2⟩ => by
    have r1 : RV X.K μ2 H2 v d := RV.mono g2 r1
    have r2 : RV X.K μ2 H2 w e := r2
    split at h2
    · cases r1 with
      | tup t1 _ rs1 =>
        cases r2 with
        | tup t2 _ rs2 =>
          split at h2
          · rename_i hall
            refine ⟨_, _, _, _, rfl, .inr ⟨t1.sq, t2.sq, wR.here hs2 h2 ?_⟩⟩
            intro i μ' H' S' ds g hs' e
            cases e
            have u1 := TupA.monoI g.i t1
            have u2 := TupA.monoI g.i t2
            have rs1 := RVs.mono g rs1
            have rs2 := RVs.mono g rs2
            refine ⟨fun hn => ⟨_, _, u1.sq, u2.sq, ?_⟩, fun d hd => ?_⟩
            · rw [RVs.length rs1, RVs.length rs2]
              exact pairs_none hn
            · obtain ⟨x, y, hx, hy, rfl⟩ := pairs_at hd
              obtain ⟨x', hx', rx⟩ := RVs.get rs1 hx
              obtain ⟨y', hy', ry⟩ := RVs.get rs2 hy
              refine ⟨⟨_, _, x', y', u1.sq, u2.sq, hx', hy'⟩, fun z H'' ⟨p, x2, y2, ez, hp, eh, k1, k2⟩ => ?_⟩
              rw [k1 _ u1.sq] at hx'
              rw [k2 _ u2.sq] at hy'
              cases hx'
              cases hy'
              subst ez eh
              exact pair_new hs' hp rx ry (unt_of hall hd)
          · exact h2.elim
    · split at h2
      · rename_i d0 e0 _ z1 z2 xs0 ys0 hl1 hl2
        obtain ⟨a1, xs1, rfl, hq1, _⟩ := litems_of hs2 r1 hl1
        obtain ⟨a2, ys1, rfl, hq2, _⟩ := litems_of hs2 r2 hl2
        refine ⟨_, _, _, _, rfl, .inl ⟨hq1, hq2, wR.here hs2 h2 ?_⟩⟩
        intro i μ' H' S' ds g hs' e
        simp only at e
        split at e
        · rename_i xs ys hm1 hm2
          split at e
          · rename_i hall
            cases e
            obtain ⟨_, us, e1, q1, rs1⟩ := litems_of hs' (r1.mono g) hm1
            obtain ⟨_, ws, e2, q2, rs2⟩ := litems_of hs' (r2.mono g) hm2
            cases e1
            cases e2
            refine ⟨fun hn => ⟨_, _, q1, q2, ?_⟩, fun d hd => ?_⟩
            · rw [RVs.length rs1, RVs.length rs2]
              exact pairs_none hn
            · obtain ⟨x, y, hx, hy, rfl⟩ := pairs_at hd
              obtain ⟨x', hx', rx⟩ := RVs.get rs1 hx
              obtain ⟨y', hy', ry⟩ := RVs.get rs2 hy
              refine ⟨⟨_, _, x', y', q1, q2, hx', hy'⟩, fun z H'' ⟨p, x2, y2, ez, hp, eh, k1, k2⟩ => ?_⟩
              rw [k1 _ q1] at hx'
              rw [k2 _ q2] at hy'
              cases hx'
              cases hy'
              subst ez eh
              exact pair_new hs' hp rx ry (unt_of hall hd)
          · cases e
        · cases e
      · exact h2.elim⟩⟩
def forI (src : Src) (g : GDen) (b : SDen) : Nat → Nat → SDen
  | 0, _ => fun _ _ => .bad
  | m + 1, i => fun ε S => match src S with
    | none => .bad
    | some ds => match ds[i]? with
      | none => .ok (.nx ε) S
      | some d => match g d ε S with
        | none => .bad
        | some ε1 => match b ε1 S with
          | .ok (.nx ε') S' => forI src g b m (i + 1) ε' S'
          | .ok (.ct ε') S' => forI src g b m (i + 1) ε' S'
          | .ok (.bk ε') S' => .ok (.nx ε') S'
          | r => r
def sFor (it : IDen) (g : GDen) (b : SDen) : SDen := fun ε S => sE (it ε S) ε fun src S => match src S with
  | some ds => forI src g b (ds.length + 1) 0 ε S
  | none => .bad
theorem psd_for {tg iter : Expr} {body : List Stmt} {it : IDen} {js : List Nat} {g : GDen} {b : SDen} {pos : Pos} (po : PassesOwn (model X.prog X.w) X.A X.env X.xe) (hc : X.calm = true) (hi : PI X tg iter (tIt (gx X T) W it)) (hg : PG X tg (tG (gx X T) js g)) (hb : PSs X body (tS (gx X T) W b))
    (hf : ∀ x, foldedSetIterable iter X.env x = pure x := by intro _; rfl) : PS X (.For tg iter body [] pos) (tS (gx X T) W (sFor it g b)) :=
  (ps_for po hc hi hg hb hf).imp fun N σ H ⟨ε, μ, S, sr, hs, h⟩ => ⟨ε, μ, S, sr, hs, (wS.bind (Rl := rlI (gx X T)) sr h).imp fun J H1 ⟨src, μ1, S1, g1, hs1, sr1, sim, h1⟩ => by
    split at h1
    · rename_i ds0 hds0
      refine ⟨fun i m σ' H' => ∃ ε' μ' S', Gr μ1 H1 μ' H' ∧ SR X.K μ' H' σ' ε' ∧ HS (gx X T) μ' S' H' ∧ wS (gx X T) W (forI src g b m i ε' S') μ' H' N, ⟨_, ε, μ1, S1, Gr.refl, sr1, hs1, h1⟩, ?_⟩
      rintro i m σ2 H2 ⟨ε2, μ2, S2, g2, sr2, hs2, h2⟩
      cases m with
      | zero => exact h2.elim
      | succ m =>
        unfold forI at h2
        split at h2
        · exact h2.elim
        · rename_i ds hds
          obtain ⟨k1, k2⟩ := sim i μ2 H2 S2 ds g2 hs2 hds
          split at h2
          · rename_i hn
            exact .inl ⟨k1 hn, h2 σ2 μ2 H2 Gr.refl hs2 sr2⟩
          · rename_i d hd
            obtain ⟨k3, k4⟩ := k2 d hd
            refine .inr ⟨k3, fun σ' H' => ∃ ε' μ' S', Gr μ1 H1 μ' H' ∧ SR X.K μ' H' σ' ε' ∧ HS (gx X T) μ' S' H' ∧ wS (gx X T) W (forI src g b m (i + 1) ε' S') μ' H' N, fun σ' H' z => ⟨m, Nat.lt_succ_self m, z⟩, fun x H3 hy => ?_⟩
            obtain ⟨g3, hs3, rx⟩ := k4 x H3 hy
            split at h2
            · exact h2.elim
            · rename_i ε1 hε1
              refine ⟨ε2, μ2, S2, d, ε1, sr2.mono g3, hs3, rx, hε1, fun σ4 sr4 _ _ => ⟨ε1, μ2, S2, sr4, hs3, ?_⟩⟩
              have h2 := wS.up g3 h2
              cases e : b ε1 S2 with
              | ok f S' =>
                rw [e] at h2
                cases f with
                | nx ε3 => exact fun σ' μ' H' g hs' sr' => ⟨ε3, μ', S', (g2.trans g3).trans g, sr', hs', wS.up g h2⟩
                | ct ε3 => exact fun σ' μ' H' g hs' sr' => ⟨ε3, μ', S', (g2.trans g3).trans g, sr', hs', wS.up g h2⟩
                | bk ε3 => exact h2
                | rt d => exact h2
                | ex c ε => exact h2
              | exc c S' => rw [e] at h2; exact h2
              | bad => rw [e] at h2; exact h2
    · exact h1.elim⟩
end
end DL
namespace DL
open PySem L2
def wipeE (ε : Env) : List Nat → Env
  | [] => ε
  | v :: vs => (wipeE ε vs).set v none
theorem SR.none {K : PySem.W.Frag} {μ : List Addr} {H : Hp} {σ : L2.St} {ε : Env} (h : SR K μ H σ ε) (i : Nat) : SR K μ H (σ.set i none) (ε.set i none) := by
  refine ⟨by simp [h.1], fun j d q => ?_⟩
  by_cases hj : i = j
  · subst hj
    by_cases hi : i < ε.length
    · rw [List.getElem?_set_self hi] at q
      cases q
    · rw [List.getElem?_eq_none (by simpa using hi)] at q
      cases q
  · rw [List.getElem?_set_ne hj] at q
    obtain ⟨v, e1, r⟩ := h.2 j d q
    exact ⟨v, by rw [List.getElem?_set_ne hj]; exact e1, r⟩
theorem SR.wipe {K : PySem.W.Frag} {μ : List Addr} {H : Hp} {σ : L2.St} {ε : Env} (h : SR K μ H σ ε) : ∀ vs : List Nat, SR K μ H (L2.wipe σ vs) (wipeE ε vs)
  | [] => h
  | v :: vs => (SR.wipe h vs).none v
theorem wipe_in {σ : L2.St} {i : Nat} (hi : i < σ.length) : ∀ {vs : List Nat}, i ∈ vs → (L2.wipe σ vs)[i]? = some none
  | v :: vs, h => by
    unfold L2.wipe
    by_cases e : v = i
    · subst e
      exact List.getElem?_set_self (by rw [wipe_length]; exact hi)
    · rw [List.getElem?_set_ne e]
      exact wipe_in hi ((List.mem_cons.mp h).resolve_left fun q => e q.symm)
theorem wipe_same {σ σ2 : L2.St} {vs js : List Nat} (hj : js.all vs.contains = true) (hl : σ2.length = (L2.wipe σ vs).length) (h : ∀ j, j ∉ js → σ2[j]? = (L2.wipe σ vs)[j]?) : L2.wipe σ2 vs = L2.wipe σ vs := by
  rw [wipe_length] at hl
  apply List.ext_getElem?
  intro i
  by_cases hi : i ∈ vs
  · by_cases hb : i < σ.length
    · rw [wipe_in (by rw [hl]; exact hb) hi, wipe_in hb hi]
    · rw [List.getElem?_eq_none (by rw [wipe_length, hl]; exact Nat.le_of_not_lt hb), List.getElem?_eq_none (by rw [wipe_length]; exact Nat.le_of_not_lt hb)]
  · rw [wipe_out hi, h i fun m => hi (by simpa using (List.all_eq_true.mp hj) i m)]
section
variable {X : Cx} {T : Gt} {W : WX}
abbrev W0 : WX := fun _ _ _ _ => False
def noX {α : Type} : R α → R α
  | .ok a S => .ok a S
  | _ => .bad
def bYes : DenB := fun _ S => .ok true S
theorem ptsd_nil : PTs X [] (tDB (gx X T) W bYes) := pts_nil.imp fun σ H Q ⟨ε, μ, S, sr, hs, h⟩ => wR.here hs h rfl
theorem ptsd_one {c : Expr} {b : DenB} (h : PT X c (tDB (gx X T) W b)) : PTs X [c] (tDB (gx X T) W b) := pts_one h
def lcI (src : Src) (g : GDen) (c : DenB) (e : Den) (vs : List Nat) (ε : Env) : Nat → Nat → List D → Sto → R (List D)
  | 0, _, _, _ => .bad
  | m + 1, i, acc, S => match src S with
    | none => .bad
    | some ds => match ds[i]? with
      | none => .ok acc S
      | some d => match g d (wipeE ε vs) S with
        | none => .bad
        | some ε1 => (noX (c ε1 S)).bind fun k S => if k = true then (noX (e ε1 S)).bind fun x S => (if acc.length < big then lcI src g c e vs ε m (i + 1) (acc ++ [x]) S else .bad) else lcI src g c e vs ε m (i + 1) acc S
def lcEnd (ds : List D) (S : Sto) : R D := .ok (.ref S.length) (S ++ [.lst ds])
def dLc (it : IDen) (g : GDen) (c : DenB) (e : Den) (vs : List Nat) : Den := fun ε S => (it ε S).bind fun src S => match src S with
  | some ds => (lcI src g c e vs ε (ds.length + 1) 0 [] S).bind lcEnd
  | none => .bad
theorem lc_to {it : IDen} {js vs : List Nat} {g : GDen} {c : DenB} {e : Den} (hj : js.all vs.contains = true) :
    ∀ σ H Q, tD (gx X T) W (dLc it g c e vs) σ H Q → tLc (tIt (gx X T) W it) (tG (gx X T) js g) (tDB (gx X T) W0 c) (tD (gx X T) W0 e) vs σ H Q := fun σ H Q ⟨ε, μ, S, sr, hs, h⟩ =>
  ⟨ε, μ, S, sr, hs, (wR.bind (Rl := rlI (gx X T)) sr h).imp fun J H1 ⟨src, μ1, S1, g1, hs1, sr1, sim, h1⟩ Dl hDl => by
    split at h1
    · rename_i ds0 hds0
      refine ⟨fun i m H2 => ∃ μ2 S2 accV acc, Gr μ1 H1 μ2 H2 ∧ HS (gx X T) μ2 S2 H2 ∧ H2 Dl = some (.lst accV) ∧ Dl ∉ μ2 ∧ RVs X.K μ2 H2 accV acc ∧ wR (gx X T) W (rlV (gx X T)) ((lcI src g c e vs ε m i acc S2).bind lcEnd) σ μ1 H1 Q,
        ⟨_, μ1, S1, [], [], Gr.new hDl, hs1.beside hDl, upd_same, hs1.fresh hDl, .nil, h1⟩, ?_⟩
      rintro i m H2 ⟨μ2, S2, accV, acc, g2, hs2, hd2, nd2, racc, h2⟩
      cases m with
      | zero => exact h2.elim
      | succ m =>
        unfold lcI at h2
        split at h2
        · exact h2.elim
        · rename_i ds hds
          obtain ⟨k1, k2⟩ := sim i μ2 H2 S2 ds g2 hs2 hds
          split at h2
          · rename_i hn
            exact .inl ⟨k1 hn, h2 _ _ _ (g2.join hDl) (hs2.join hd2 nd2 racc) (.ref hs2.last)⟩
          · rename_i d hd
            obtain ⟨k3, k4⟩ := k2 d hd
            refine .inr ⟨k3, fun H' => ∃ μ' S' accV' acc', Gr μ1 H1 μ' H' ∧ HS (gx X T) μ' S' H' ∧ H' Dl = some (.lst accV') ∧ Dl ∉ μ' ∧ RVs X.K μ' H' accV' acc' ∧ wR (gx X T) W (rlV (gx X T)) ((lcI src g c e vs ε m (i + 1) acc' S').bind lcEnd) σ μ1 H1 Q,
              fun H' z => ⟨m, Nat.lt_succ_self m, z⟩, fun x H3 hy => ?_⟩
            obtain ⟨g3, hs3, rx⟩ := k4 x H3 hy
            have hd3 := g3.keep _ _ nd2 hd2
            split at h2
            · exact h2.elim
            · rename_i ε1 hε1
              refine ⟨wipeE ε vs, μ2, S2, d, ε1, (sr1.mono (g2.trans g3)).wipe vs, hs3, rx, hε1, fun σ4 sr4 l4 q4 => ⟨wipe_same hj l4 q4, ?_⟩⟩
              refine ⟨ε1, μ2, S2, sr4, hs3, ?_⟩
              cases ec : c ε1 S2 with
              | exc _ _ => rw [ec] at h2; exact h2.elim
              | bad => rw [ec] at h2; exact h2.elim
              | ok k S4 =>
                rw [ec] at h2
                intro b μ4 H4 g4 hs4 eb
                have eb : b = k := eb
                subst eb
                have hd4 := g4.keep _ _ nd2 hd3
                have nd4 := g4.notin hd3 nd2
                have racc4 := (racc.mono g3).mono g4
                cases b with
                | false => exact ⟨μ4, S4, accV, acc, (g2.trans g3).trans g4, hs4, hd4, nd4, racc4, h2⟩
                | true =>
                  refine ⟨ε1, μ4, S4, sr4.mono g4, hs4, ?_⟩
                  cases ee : e ε1 S4 with
                  | exc _ _ =>
                    simp only [noX, R.bind_ok, if_true, ee, R.bind_bad] at h2
                    exact h2.elim
                  | bad =>
                    simp only [noX, R.bind_ok, if_true, ee, R.bind_bad] at h2
                    exact h2.elim
                  | ok y S5 =>
                    simp only [noX, R.bind_ok, if_true, ee] at h2
                    intro v μ5 H5 g5 hs5 rv
                    have hd5 := g5.keep _ _ nd4 hd4
                    have nd5 := g5.notin hd4 nd4
                    split at h2
                    · have racc5 := racc4.mono g5
                      refine ⟨accV, hd5, by rw [RVs.length racc5]; exact big_lt (Nat.le_of_lt ‹_›), μ5, S5, accV ++ [v], acc ++ [y], (((g2.trans g3).trans g4).trans g5).aside hDl, hs5.aside hd5 nd5, upd_same, nd5, ?_, h2⟩
                      exact (racc5.append (.cons rv .nil)).monoI (Gi.aside hd5)
                    · exact h2.elim
    · exact h1.elim⟩
theorem pd_lc {elt tg iter : Expr} {ifs : List Expr} {scope : Scope} {own : List (Str × Nat)} {pos : Pos} {it : IDen} {js : List Nat} {g : GDen} {c : DenB} {e : Den} (hc : X.calm = true) (hN : X.N.Nodup) (hi : PI X tg iter (tIt (gx X T) W it)) (ok : BlkOk X.N X.env.scope scope own)
    (hg : ∀ (s : Shared) (H : Hp) (C : Addr) (cl : List (Str × Addr)) (fp : List Addr), PG (X.blk s H scope (compEnvC scope cl C X.env) fp) tg (tG (gx X T) js g)) (ht : ∀ (s : Shared) (H : Hp) (C : Addr) (cl : List (Str × Addr)) (fp : List Addr), PTs (X.blk s H scope (compEnvC scope cl C X.env) fp) ifs (tDB (gx X T) W0 c))
    (he : ∀ (s : Shared) (H : Hp) (C : Addr) (cl : List (Str × Addr)) (fp : List Addr), PE (X.blk s H scope (compEnvC scope cl C X.env) fp) elt (tD (gx X T) W0 e)) (hj : js.all (own.map (·.2)).contains = true := by rfl) (hs : ∀ x, foldedSetIterable iter X.env x = pure x := by intro _; rfl) :
    PE X (.ListComp elt [⟨tg, iter, ifs, 0⟩] scope pos) (tD (gx X T) W (dLc it g c e (own.map (·.2)))) :=
  (pe_lc hc hN hi ok hg ht he hs).imp (lc_to hj)
theorem psd_setLc (i : Nat) {y : Str} {py : Pos} {elt tg iter : Expr} {ifs : List Expr} {scope : Scope} {own : List (Str × Nat)} {pos spos : Pos} {it : IDen} {js : List Nat} {g : GDen} {c : DenB} {e : Den} (hc : X.calm = true) (hN : X.N.Nodup) (hi : PI X tg iter (tIt (gx X T) W it)) (ok : BlkOk X.N X.env.scope scope own)
    (hg : ∀ (s : Shared) (H : Hp) (C : Addr) (cl : List (Str × Addr)) (fp : List Addr), PG (X.blk s H scope (compEnvC scope cl C X.env) fp) tg (tG (gx X T) js g)) (ht : ∀ (s : Shared) (H : Hp) (C : Addr) (cl : List (Str × Addr)) (fp : List Addr), PTs (X.blk s H scope (compEnvC scope cl C X.env) fp) ifs (tDB (gx X T) W0 c))
    (he : ∀ (s : Shared) (H : Hp) (C : Addr) (cl : List (Str × Addr)) (fp : List Addr), PE (X.blk s H scope (compEnvC scope cl C X.env) fp) elt (tD (gx X T) W0 e))
    (hsw : swapsWith (.ListComp elt [⟨tg, iter, ifs, 0⟩] scope pos) (some (.Name y py)) spos.line X.env = pure true)
    (hy : X.N[i]? = some y := by rfl) (hyl : X.env.scope.names.lookup y = some .local := by rfl) (hj : js.all (own.map (·.2)).contains = true := by rfl) (hs : ∀ x, foldedSetIterable iter X.env x = pure x := by intro _; rfl) :
    PS X (.Assign [.Name y py] (.ListComp elt [⟨tg, iter, ifs, 0⟩] scope pos) spos) (tS (gx X T) W (sAsg (dLc it g c e (own.map (·.2))) (gN i))) :=
  (ps_setLc hc hN hy hyl hsw hi ok hg ht he hs).imp (asg_to (js := [i]) (lc_to hj) fun v σ H Q ⟨ε, μ, S, d, ε', sr, hs', r, e, q⟩ => by
    cases e
    refine q _ (sr.set r i) (by simp) fun j hj => ?_
    rw [List.getElem?_set_ne]
    rintro rfl
    exact hj (by simp))
def lstAt (S : Sto) : D → Option (Nat × List D)
  | .ref n => match S[n]? with
    | some (.lst ds) => some (n, ds)
    | _ => none
  | _ => none
theorem lstAt_of {G : Gc} {μ : List Addr} {S : Sto} {H : Hp} (hs : HS G μ S H) {v : V} {d : D} {n : Nat} {ds : List D} (r : RV G.K μ H v d) (e : lstAt S d = some (n, ds)) : ∃ a xs, v = .ref a ∧ μ[n]? = some a ∧ H a = some (.lst xs) ∧ RVs G.K μ H xs ds := by
  cases r with
  | ref q =>
    simp only [lstAt] at e
    split at e
    · cases e
      exact hs.lst (RV.ref q) ‹_›
    · cases e
  | _ => cases e
def dAppend (o a : Den) : Den := fun ε S => (o ε S).bind fun l S => match lstAt S l with
  | some _ => (a ε S).bind fun d S => (match lstAt S l with
    | some (n, ds) => if ds.length < big then .ok .non (S.set n (.lst (ds ++ [d]))) else .bad
    | none => .bad)
  | none => .bad
theorem pd_append {o e : Expr} {apos cpos : Pos} {a b : Den} (ha : PE X o (tD (gx X T) W a)) (hb : PE X e (tD (gx X T) W b)) (hst : starEach [e] X.env = (false, eval e X.env) :: starEach [] X.env := by rfl)
    (hbase : attributeBase o "append" X.env (eval o X.env) = eval o X.env := by rfl)
    (hfew : ((backTo cpos (starEach [e] X.env)).all (fun x => !x.1) && (backToKw cpos (keywordEach [] X.env)).all (fun x => x.1.isSome)
      && decide (([e] : List Expr).length + ([] : List Keyword).length + (if ([] : List Keyword).isEmpty then 0 else 1) < 30)) = true := by rfl)
    (hline : (apos.endLine == cpos.line) = true := by rfl) (hplain : (backTo cpos (starEach [] X.env)).any (·.1) = false := by rfl) :
    PE X (.Call (.Attribute o "append" apos) [e] [] cpos) (tD (gx X T) W (dAppend a b)) :=
  (pe_bm PySem.F.plainAttrs_list PySem.F.slot_list_append PySem.F.type_list_append mt_append ha (pa_cons hb pa_nil hst) hbase hfew hline hst hplain).imp fun σ H Q ⟨ε, μ, S, sr, hs, h⟩ => ⟨ε, μ, S, sr, hs, (wR.bind (Rl := rlV (gx X T)) sr h).imp fun v H1 ⟨d, μ1, S1, g1, hs1, sr1, r1, h1⟩ => by
    split at h1
    · rename_i z hz
      obtain ⟨n0, ds0⟩ := z
      obtain ⟨p, xs, rfl, en, hp, rs⟩ := lstAt_of hs1 r1 hz
      refine ⟨.inl ⟨rfl, xs, .inl (.inl hp)⟩, ε, μ1, S1, sr1, hs1, (wR.bind (Rl := rlV (gx X T)) sr1 h1).imp fun w H2 ⟨e, μ2, S2, g2, hs2, sr2, r2, h2⟩ => ?_⟩
      split at h2
      · rename_i n ds hz2
        split at h2
        · obtain ⟨p2, xs2, e2, en2, hp2, rs2⟩ := lstAt_of hs2 (RV.mono g2 r1) hz2
          cases e2
          have g3 : Gr μ2 H2 μ2 (upd H2 p (.lst (xs2 ++ [w]))) := Gr.write (List.mem_of_getElem? en2)
          exact ⟨p, xs2, w, rfl, rfl, hp2, by rw [RVs.length rs2]; exact big_lt (Nat.le_of_lt ‹_›), h2 _ _ _ g3 (hs2.put en2 ⟨_, upd_same, (RVs.append rs2 (.cons r2 .nil)).mono g3⟩) .non⟩
        · exact h2.elim
      · exact h2.elim
    · exact h1.elim⟩
end
def runFn (np nN : Nat) (b : SDen) : Fn := fun ds S => if ds.length = np then (match b (ds.map some ++ List.replicate (nN - np) none) S with
  | .ok (.nx _) S' => .ok .non S'
  | .ok (.rt d) S' => .ok d S'
  | .ok (.ex c _) S' => .exc c S'
  | _ => .bad) else .bad
theorem sr_start {K : PySem.W.Frag} {μ : List Addr} {H : Hp} : ∀ {vs : List V} {ds : List D}, RVs K μ H vs ds → ∀ n : Nat, SR K μ H (vs.map some ++ List.replicate n none) (ds.map some ++ List.replicate n none)
  | vs, ds, r, n => by
    refine ⟨by simp [r.length], fun i d e => ?_⟩
    by_cases hi : i < ds.length
    · rw [List.getElem?_append_left (by simpa using hi), List.getElem?_map] at e
      cases q : ds[i]? with
      | none => rw [q] at e; cases e
      | some d' =>
        rw [q] at e
        cases e
        obtain ⟨v, h1, h2⟩ := r.get q
        exact ⟨v, by rw [List.getElem?_append_left (by rw [List.length_map, r.length]; exact hi), List.getElem?_map, h1]; rfl, h2⟩
    · rw [List.getElem?_append_right (by simpa using Nat.le_of_not_lt hi)] at e
      by_cases hj : i - (ds.map some).length < n
      · rw [List.getElem?_replicate, if_pos hj] at e
        cases e
      · rw [List.getElem?_replicate, if_neg hj] at e
        cases e
theorem fn_ok {P : Program} {w : World} {K : PySem.W.Frag} {mg : Str → Option Value} {base : Heap} {T : Gt} {x qual : Str} {st : Stmt} {f : Addr} {fd : FuncData} {N ps : List Str} {k np : Nat} {b : SDen} (F : Fun K x qual st f fd) (Sc : FnScope N ps (defScope st)) (hl : ps.length = np)
    (body : ∀ (cdv : Value) (A : Around) (outer : List PySem.Env) (s : Shared) (H : Hp) (E : XK), Room k (A.deeper (PyProof.Rows.envOfC qual (defScope st) s.heap.objs.size f cdv)) →
      PSs (cxOf (L2N.CX P w) P w K mg base N qual (defScope st) f cdv A outer s H E) (defBody st) (tS ⟨K, T.cA, T.xA⟩ (fun cls d _ H => E cls d H) b)) :
    FnOk P w K mg base (L2N.CX P w) (k + 1) f fd ps (spD ⟨K, T.cA, T.xA⟩ np (runFn np N.length b)) := by
  obtain ⟨oc, od, kV, doc, pm, an, cdv, ct, osl, rfl, lk, hcd⟩ := F.ex
  refine L2.fn_of lk hcd Sc (fun vs H Q E ⟨_, _, _, h, _⟩ => h.trans hl.symm) fun A outer s H vs Q E hr ⟨μ, S, ds, hv, hs, rs, h⟩ => ?_
  refine ⟨_, body cdv A outer s H E hr, ds.map some ++ List.replicate (N.length - np) none, μ, S, ?_, hs, ?_⟩
  · show SR K μ H (vs.map some ++ List.replicate (N.length - vs.length) none) _
    rw [hv]
    exact sr_start rs _
  · unfold runFn at h
    rw [if_pos (by rw [← RVs.length rs]; exact hv)] at h
    cases e : b (ds.map some ++ List.replicate (N.length - np) none) S with
    | ok fl S' =>
      rw [e] at h
      cases fl with
      | nx ε => exact fun σ' μ' H' g hs' _ => h _ _ _ g hs' .non
      | rt d => exact fun v μ' H' g hs' r => h _ _ _ g hs' r
      | bk ε => exact h.elim
      | ct ε => exact h.elim
      | ex c ε => exact fun C σ' μ' H' hx g hs' _ => h C μ' H' hx g hs'
    | exc c S' => rw [e] at h; exact h.elim
    | bad => rw [e] at h; exact h.elim
theorem fn_zero {P : Program} {w : World} {K : PySem.W.Frag} {mg : Str → Option Value} {base : Heap} {G : Gc} {f : Addr} {fd : FuncData} {ps : List Str} {np : Nat} : FnOk P w K mg base (L2N.CX P w) 0 f fd ps (spD G np fun _ _ => .bad) :=
  ⟨fun vs H Q E ⟨_, _, _, _, _, _, h⟩ => h.elim, fun A outer s H args us vs Q E _ _ _ _ ⟨_, _, _, _, _, _, h⟩ => h.elim⟩
end DL
namespace DZ
open PySem
open Sem (wp)
section
end
end DZ
namespace L2
open PySem PySem.Spec PyProof.Rows
section
end
end L2
namespace L2
open PySem PySem.Spec PyProof.Rows
theorem PE.or {X : Cx} {e : Expr} {t t' : TE} (h : PE X e t) (h' : PE X e t') : PE X e (fun σ H Q => t σ H Q ∨ t' σ H Q) := ⟨fun pins s σ H Q I q => q.elim (h.run pins s σ H Q I) (h'.run pins s σ H Q I)⟩
theorem PT.or {X : Cx} {e : Expr} {t t' : TT} (h : PT X e t) (h' : PT X e t') : PT X e (fun σ H Q => t σ H Q ∨ t' σ H Q) := ⟨fun pins s σ H Q I q => q.elim (h.run pins s σ H Q I) (h'.run pins s σ H Q I)⟩
theorem PI.or {X : Cx} {tg e : Expr} {t t' : TI} (h : PI X tg e t) (h' : PI X tg e t') : PI X tg e (fun σ H Q => t σ H Q ∨ t' σ H Q) := ⟨fun pins s σ H Q I q => q.elim (h.run pins s σ H Q I) (h'.run pins s σ H Q I)⟩
end L2
namespace DL
open PySem L2
section
variable {G : Gc} {μ μ1 : List Addr} {S : Sto} {H H1 : Hp} {p : Addr}
theorem Gr.adopt (g : Gr μ1 H1 μ H) (h1 : H1 p = none) {u : HO} : Gr μ1 H1 (μ ++ [p]) (upd H p u) := by
  have g' := g.aside h1 (o := u)
  obtain ⟨ν, e, hn⟩ := g'.pre
  refine ⟨⟨ν ++ [p], by rw [e, List.append_assoc], fun a m => ?_⟩, g'.keep, g'.live⟩
  rcases List.mem_append.mp m with m | m
  · exact hn a m
  · rw [List.mem_singleton.mp m]
    exact h1
theorem Gi.adopt {u u' : HO} (hp : H p = some u) (hi : imm u = false) : Gi μ H (μ ++ [p]) (upd H p u') := by
  refine ⟨⟨[p], rfl, fun a m o e => by rw [List.mem_singleton.mp m, hp] at e; cases e; exact hi⟩, fun a o _ h i => ?_⟩
  rw [upd_ne]
  · exact h
  · rintro rfl
    rw [hp] at h
    cases h
    rw [hi] at i
    cases i
theorem HS.adopt (h : HS G μ S H) {u u' : HO} {o : O} (hp : H p = some u) (hi : imm u = false) (n : p ∉ μ) (r : RO G (μ ++ [p]) (upd H p u') p o) : HS G (μ ++ [p]) (S ++ [o]) (upd H p u') := by
  refine ⟨by simp [h.len], ?_, fun m a o' e1 e2 => ?_⟩
  · rw [List.nodup_append]
    refine ⟨h.nd, by simp, fun a m b m' => ?_⟩
    rw [List.mem_singleton.mp m']
    rintro rfl
    exact n m
  · by_cases hn : m < μ.length
    · rw [List.getElem?_append_left hn] at e1
      rw [List.getElem?_append_left (by rw [← h.len]; exact hn)] at e2
      exact (h.at_ m a o' e1 e2).keepI (Gi.adopt hp hi) (upd_ne fun q => n (by rw [← q]; exact List.mem_of_getElem? e1))
    · have hn : μ.length ≤ m := Nat.le_of_not_lt hn
      rw [List.getElem?_append_right hn] at e1
      rw [List.getElem?_append_right (by rw [← h.len]; exact hn)] at e2
      have e0 : m - μ.length = 0 := by
        cases q : m - μ.length with
        | zero => rfl
        | succ m => rw [q] at e1; simp at e1
      rw [e0] at e1
      rw [← h.len, e0] at e2
      simp at e1 e2
      subst e1 e2
      exact r
end
section
variable {X : Cx} {T : Gt} {W : WX}
def mergeD (kvs more : List (Key × D)) : List (Key × D) := more.foldl (fun acc kv => putD acc kv.1 kv.2) kvs
theorem RKs.merge {K : PySem.W.Frag} {μ : List Addr} {H : Hp} {more : List (Key × V)} {more' : List (Key × D)} (r : RKs K μ H more more') : ∀ {kvs : List (Key × V)} {kvs' : List (Key × D)}, RKs K μ H kvs kvs' → RKs K μ H (mergeK kvs more) (mergeD kvs' more') := by
  induction r with
  | nil => exact fun h => h
  | @cons k v vs d ds h t ih => exact fun q => ih (q.put k h)
def dUpd (o a : Den) : Den := fun ε S => (o ε S).bind fun l S => match dctAt S l with
  | some _ => (a ε S).bind fun d S => (match dctAt S l, dctAt S d with
    | some (n, kvs), some (m, more) => if n ≠ m ∧ kvs.length + more.length ≤ big then .ok .non (S.set n (.dct (mergeD kvs more))) else .bad
    | _, _ => .bad)
  | none => .bad
def pairD : D → Option (Key × D)
  | .tup [k, v] => (keyD k).map fun k => (k, v)
  | _ => none
theorem pairs_to {K : PySem.W.Frag} {μ : List Addr} {H : Hp} : ∀ {vs : List V} {ds : List D} {kvs : List (Key × D)}, RVs K μ H vs ds → fall pairD ds = some kvs →
    ∃ (ps : List Addr) (ws : List (Key × V)), vs = ps.map V.ref ∧ Paired (fun p kv => SqT K H p [kV kv.1, kv.2]) ps ws ∧ RKs K μ H ws kvs
  | _, _, _, .nil, e => by cases e; exact ⟨[], [], rfl, .nil, .nil⟩
  | _, d :: ds, _, .cons h t, e => by
    unfold fall at e
    split at e
    · rename_i b s hb hs
      cases e
      obtain ⟨ps, ws, rfl, q1, q2⟩ := pairs_to t hs
      unfold pairD at hb
      split at hb
      · rename_i k v
        obtain ⟨j, hj, rfl⟩ := Option.map_eq_some_iff.mp hb
        cases h with
        | tup tt _ rs =>
          obtain ⟨x, y, rfl, rx, ry⟩ := two_of rs
          have ek := key_of rx hj
          subst ek
          exact ⟨_ :: ps, (j, y) :: ws, rfl, .cons tt.sq q1, .cons ry q2⟩
      · cases hb
    · cases e
def fDict : Fn := fun ds S => match ds with
  | [d] => (match dctAt S d with
    | some (_, kvs) => .ok (.ref S.length) (S ++ [.dct kvs])
    | none => (match litems S d with
      | some xs => (match fall pairD xs with
        | some kvs => .ok (.ref S.length) (S ++ [.dct (mergeD [] kvs)])
        | none => .bad)
      | none => .bad))
  | _ => .bad
theorem cd_dict (hc : X.calm = true) : CallD X T (.type "dict") fDict := by
  refine ⟨_, call_dictD.or (call_dictP hc), fun W σ μ S H vs ds Q hs r h => ?_⟩
  unfold fDict at h
  split at h
  · obtain ⟨v, rfl, r1⟩ := one_of r
    split at h
    · obtain ⟨p, ws, rfl, en, hp, rk⟩ := dctAt_of hs r1 ‹_›
      exact .inl ⟨p, ws, rfl, .inl hp, fun q hq => h _ _ _ (Gr.obj hq) (hs.grow hq ⟨_, upd_same, rk.mono (Gr.obj hq)⟩) (.ref hs.last)⟩
    · split at h
      · split at h
        · obtain ⟨a, xs, rfl, hq, rs⟩ := litems_of hs r1 ‹_›
          obtain ⟨ps, ws, rfl, q1, q2⟩ := pairs_to rs ‹_›
          exact .inr ⟨a, ps, ws, rfl, hq, q1, fun q hq => h _ _ _ (Gr.obj hq) (hs.grow hq ⟨_, upd_same, (q2.merge .nil).mono (Gr.obj hq)⟩) (.ref hs.last)⟩
        · exact h.elim
      · exact h.elim
  · exact h.elim
def dPairs : List (Den × Den) → Env → Sto → R (List (D × D))
  | [], _, S => .ok [] S
  | (k, v) :: r, ε, S => (k ε S).bind fun x S => (v ε S).bind fun y S => (dPairs r ε S).bind fun ps S => .ok ((x, y) :: ps) S
def keyed : List (D × D) → Option (List (Key × D))
  | [] => some []
  | (k, v) :: r => match keyD k, keyed r with
    | some j, some s => some ((j, v) :: s)
    | _, _ => none
def dDisp (ps : List (Den × Den)) : Den := fun ε S => (dPairs ps ε S).bind fun qs S => match keyed qs with
  | some kvs => if kvs.length ≤ 15 then .ok (.ref S.length) (S ++ [.dct (mergeD [] kvs)]) else .bad
  | none => .bad
inductive RP (K : PySem.W.Frag) (μ : List Addr) (H : Hp) : List (V × V) → List (D × D) → Prop
  | nil : RP K μ H [] []
  | cons {x y : V} {d e : D} {vs : List (V × V)} {ds : List (D × D)} : RV K μ H x d → RV K μ H y e → RP K μ H vs ds → RP K μ H ((x, y) :: vs) ((d, e) :: ds)
theorem RP.keyed {K : PySem.W.Frag} {μ : List Addr} {H : Hp} : ∀ {vs : List (V × V)} {ds : List (D × D)} {kvs : List (Key × D)}, RP K μ H vs ds → DL.keyed ds = some kvs → ∃ ws : List (Key × V), vs = ws.map (fun kv => (kV kv.1, kv.2)) ∧ RKs K μ H ws kvs
  | _, _, _, .nil, e => by cases e; exact ⟨[], rfl, .nil⟩
  | _, _, _, .cons hx hy t, e => by
    unfold DL.keyed at e
    split at e
    · rename_i j s hj hs
      cases e
      obtain ⟨ws, rfl, q⟩ := RP.keyed t hs
      have ek := key_of hx hj
      subst ek
      exact ⟨(j, _) :: ws, rfl, .cons hy q⟩
    · cases e
theorem pairs_w : ∀ (ps : List (Den × Den)) {α : Type} {σ : L2.St} {ε : Env} {μ : List Addr} {S : Sto} {H : Hp} {k : List (D × D) → Sto → R D} {Q : List (V × V) → Hp → Prop} (B : R D → List Addr → Hp → Prop) (hB0 : ∀ μ H, ¬ B .bad μ H)
    (hBx : ∀ c S μ H, HS (gx X T) μ S H → B (.exc c S) μ H → ∀ C μ' H', T.xA c = some C → Gr μ H μ' H' → HS (gx X T) μ' S H' → W (.ref C) none σ H') (hBu : ∀ r μ H μ' H', Gr μ H μ' H' → B r μ H → B r μ' H'),
    SR X.K μ H σ ε → HS (gx X T) μ S H → B ((dPairs ps ε S).bind k) μ H →
    (∀ vs ds μ' S' H', Gr μ H μ' H' → HS (gx X T) μ' S' H' → RP X.K μ' H' vs ds → B (k ds S') μ' H' → Q vs H') →
    tPairs (ps.map fun p => (tD (gx X T) W p.1, tD (gx X T) W p.2)) σ H Q
  | [], α, σ, ε, μ, S, H, k, Q, B, hB0, hBx, hBu, sr, hs, h, q => q [] [] μ S H Gr.refl hs .nil h
  | (a, b) :: ps, α, σ, ε, μ, S, H, k, Q, B, hB0, hBx, hBu, sr, hs, h, q => by
    refine ⟨ε, μ, S, sr, hs, ?_⟩
    show wR (gx X T) W (rlV (gx X T)) (a ε S) σ μ H _
    unfold dPairs at h
    cases ea : a ε S with
    | bad => rw [ea] at h; exact (hB0 _ _ h).elim
    | exc c S1 => rw [ea] at h; exact fun C μ' H' hx g hs' => hBx c S1 μ' H' hs' (hBu _ _ _ _ _ g h) C μ' H' hx Gr.refl hs'
    | ok x S1 =>
      rw [ea] at h
      intro v μ1 H1 g1 hs1 r1
      refine ⟨ε, μ1, S1, sr.mono g1, hs1, ?_⟩
      show wR (gx X T) W (rlV (gx X T)) (b ε S1) σ μ1 H1 _
      simp only [R.bind_ok] at h
      cases eb : b ε S1 with
      | bad => rw [eb] at h; exact (hB0 _ _ h).elim
      | exc c S2 => rw [eb] at h; exact fun C μ' H' hx g hs' => hBx c S2 μ' H' hs' (hBu _ _ _ _ _ (g1.trans g) h) C μ' H' hx Gr.refl hs'
      | ok y S2 =>
        rw [eb] at h
        intro w μ2 H2 g2 hs2 r2
        simp only [R.bind_ok] at h
        rw [R.bind_assoc] at h
        refine pairs_w ps (α := α) (k := fun qs S => k ((x, y) :: qs) S) B hB0 hBx hBu ((sr.mono g1).mono g2) hs2 (hBu _ _ _ _ _ (g1.trans g2) h) fun vs ds μ' S' H' g hs' rp h' => ?_
        exact q _ _ μ' S' H' ((g1.trans g2).trans g) hs' (.cons (RV.mono g (RV.mono g2 r1)) (RV.mono g r2) rp) h'
theorem pd_disp {keys : List (Option Expr)} {values : List Expr} {pos : Pos} (ps : List (Den × Den)) (h : PPs X pos keys values (ps.map fun p => (tD (gx X T) W p.1, tD (gx X T) W p.2))) (hall : keys.all (·.isSome) = true) (hl : keys.length = values.length) (h0 : keys ≠ []) (h15 : keys.length ≤ 15) :
    PE X (.Dict keys values pos) (tD (gx X T) W (dDisp ps)) :=
  (pe_disp h hall hl h0 h15).imp fun σ H Q ⟨ε, μ, S, sr, hs, h⟩ p hp => by
    have g0 : Gr μ H μ (upd H p (.dK [])) := Gr.new hp
    have n0 : p ∉ μ := hs.fresh hp
    refine pairs_w (X := X) (T := T) (W := W) ps (α := Unit) (S := S) (μ := μ) (ε := ε) (k := fun qs S => match keyed qs with
      | some kvs => if kvs.length ≤ 15 then .ok (.ref S.length) (S ++ [.dct (mergeD [] kvs)]) else .bad
      | none => .bad) (fun r μ' H' => Gr μ H μ' H' ∧ wR (gx X T) W (rlV (gx X T)) r σ μ H Q) (fun _ _ z => z.2) (fun c S1 μ1 H1 hs1 z C μ' H' hx g hs' => z.2 C μ' H' hx (z.1.trans g) hs') (fun r μ1 H1 μ2 H2 g z => ⟨z.1.trans g, z.2⟩) (sr.mono g0) (hs.beside hp) ⟨g0, h⟩ fun vs ds μ' S' H' g hs' rp z => ?_
    have hp' : H' p = some (.dK []) := g.keep p _ n0 upd_same
    have n' : p ∉ μ' := g.notin upd_same n0
    refine ⟨hp', ?_⟩
    obtain ⟨zg, zh⟩ := z
    split at zh
    · rename_i kvs hk
      split at zh
      · obtain ⟨ws, rfl, rk⟩ := rp.keyed hk
        refine ⟨ws, rfl, by rw [rk.length]; assumption, zh _ _ _ (zg.adopt hp) (hs'.adopt hp' rfl n' ⟨_, upd_same, ?_⟩) (.ref hs'.last)⟩
        exact (rk.monoI (Gi.adopt hp' rfl)).merge .nil
      · exact zh.elim
    · exact zh.elim
def oGet : Op := fun d k S => match dctAt S d with
  | some (_, kvs) => (match keyD k with
    | some j => (match valD kvs j with
      | some v => .ok v S
      | none => .bad)
    | none => .bad)
  | none => oIx d k S
theorem pd_sub {a b : Expr} {da db : Den} {pos : Pos} (hu : X.A.units + 1 < cLine) (ha : PE X a (tD (gx X T) W da)) (hb : PE X b (tD (gx X T) W db)) (hp : PlainIx b := by exact fun _ _ => rfl) (hn : NoSl b := by exact fun _ _ => rfl) : PE X (.Subscript a b pos) (tD (gx X T) W (dBin oGet da db)) :=
  (L2.PE.or (pd_dget (T := T) (W := W) hu ha hb hn) (pd_ix (T := T) (W := W) ha hb hp)).imp fun σ H Q ⟨ε, μ, S, sr, hs, h⟩ => by
    unfold dBin at h
    cases ea : da ε S with
    | bad => rw [ea] at h; exact h.elim
    | exc c S1 =>
      rw [ea] at h
      refine .inr ⟨ε, μ, S, sr, hs, ?_⟩
      unfold dBin
      rw [ea]
      exact h
    | ok d S1 =>
      rw [ea] at h
      cases eb : db ε S1 with
      | bad => rw [R.bind_ok, eb] at h; exact h.elim
      | exc c S2 =>
        rw [R.bind_ok, eb] at h
        refine .inr ⟨ε, μ, S, sr, hs, ?_⟩
        unfold dBin
        rw [ea, R.bind_ok, eb]
        exact h
      | ok k S2 =>
        rw [R.bind_ok, eb, R.bind_ok] at h
        unfold oGet at h
        cases ed : dctAt S2 d with
        | none =>
          rw [ed] at h
          refine .inr ⟨ε, μ, S, sr, hs, ?_⟩
          unfold dBin
          rw [ea, R.bind_ok, eb, R.bind_ok]
          exact h
        | some z =>
          obtain ⟨n, kvs⟩ := z
          rw [ed] at h
          refine .inl ⟨ε, μ, S, sr, hs, ?_⟩
          unfold dGetI
          rw [ea, R.bind_ok, eb, R.bind_ok, ed]
          simp only at h ⊢
          cases ek : keyD k with
          | none => rw [ek] at h; exact h.elim
          | some j => rw [ek] at h; exact h
def iAny (a : Den) : IDen := fun ε S => (a ε S).bind fun d S => match d with
  | .tup ds => .ok (fun _ => some ds) S
  | .str x => .ok (fun _ => some (signs x)) S
  | d => (match litems S d with
    | some _ => .ok (fun S => litems S d) S
    | none => .bad)
theorem pid_any {tg e : Expr} {a : Den} (ha : PE X e (tD (gx X T) W a)) : PI X tg e (tIt (gx X T) W (iAny a)) :=
  (PI.or (pid_tup ha) (PI.or (pid_str ha) (pid_seq ha))).imp fun σ H Q ⟨ε, μ, S, sr, hs, h⟩ => by
    unfold iAny at h
    cases ea : a ε S with
    | bad => rw [ea] at h; exact h.elim
    | exc c S1 =>
      rw [ea] at h
      refine .inl ⟨ε, μ, S, sr, hs, ?_⟩
      unfold iTupD
      rw [ea]
      exact h
    | ok d S1 =>
      rw [ea, R.bind_ok] at h
      cases d with
      | tup ds =>
        refine .inl ⟨ε, μ, S, sr, hs, ?_⟩
        unfold iTupD
        rw [ea]
        exact h
      | str x =>
        refine .inr (.inl ⟨ε, μ, S, sr, hs, ?_⟩)
        unfold iSigns
        rw [ea]
        exact h
      | _ =>
        refine .inr (.inr ⟨ε, μ, S, sr, hs, ?_⟩)
        unfold iSeq
        rw [ea]
        exact h
end
end DL
namespace L2
open PySem PySem.Spec PyProof.Rows
theorem PS.or {X : Cx} {st : Stmt} {t t' : TS} (h : PS X st t) (h' : PS X st t') : PS X st (fun N σ H => t N σ H ∨ t' N σ H) := ⟨fun pins s σ H N I q => q.elim (h.run pins s σ H N I) (h'.run pins s σ H N I)⟩
theorem Room.u65 {k : Nat} {A : Around} (r : Room k A) : A.units + 65 < cLine := by have := r.un; omega
end L2
namespace DL
open PySem L2
section
variable {X : Cx} {T : Gt} {W : WX}
def sPut (o k v : Den) : SDen := fun ε S => sE (v ε S) ε fun x S => sE (o ε S) ε fun l S => sE (k ε S) ε fun y S => match dctAt S l with
  | some (n, kvs) => (match keyD y with
    | some j => if kvs.length < big then .ok (.nx ε) (S.set n (.dct (putD kvs j x))) else .bad
    | none => .bad)
  | none => (match lstAt S l, y with
    | some (n, ds), .int i => (match ixN ds.length i with
      | some j => .ok (.nx ε) (S.set n (.lst (ds.set j x)))
      | none => .bad)
    | _, _ => .bad)
end
end DL
namespace DL
open PySem L2
theorem no_exc {P : Program} {w : World} {H : Hp} {s : Shared} {e : Value} {s' : Shared} (z : L2N.CX P w [] H s (fun _ _ _ => False) e s') : False := by
  obtain ⟨_, _, _, _, _, _, _, _, _, _, _, _, z⟩ := z
  exact z
theorem hs_nil (G : Gc) (H : Hp) : HS G [] [] H := ⟨rfl, List.nodup_nil, fun n a o e => by simp at e⟩
theorem rvs_ints {K : PySem.W.Frag} {μ : List Addr} {H : Hp} : ∀ ns : List Int, RVs K μ H (ns.map V.int) (ns.map D.int)
  | [] => .nil
  | i :: r => .cons (.int i) (rvs_ints r)
theorem rv_script {K : PySem.W.Frag} {H : Hp} {a : Addr} {ns : List Int} (hO : Only H) (h : SqL K H a (ns.map V.int)) : RV K [] H (.ref a) (.seq (ns.map D.int)) := .seq (LstA.of hO h) (rvs_ints ns)
end DL
namespace DL
open PySem L2 PyProof.Rows
structure ExcC (K : PySem.W.Frag) (C : Addr) : Prop where
  xin : PySem.W.excIn K C [.type "Exception", .type "BaseException", .type "object"] "Exception.__new__" = true ∨ PySem.W.excIn K C [.type "ValueError", .type "Exception", .type "BaseException", .type "object"] "ValueError.__new__" = true
  kp : PySem.W.keepIn K (.ref C) = true
  sb : PySem.W.subIn K (.ref C) (.type "BaseException") = some true
  ty : PySem.W.typeIn K (.ref C) = some (.type "type")
  cl : PySem.W.isClsIn K C = true
  se : PySem.W.subIn K (.ref C) (.ref C) = some true
section
variable {X : Cx} {T : Gt} {W : WX} {C : Addr} {x m : Str} {j : Nat} {p p2 pos pos2 : Pos}
def sRaise (c : Str) : SDen := fun ε S => .ok (.ex c ε) S
theorem psd_raiseOf {c : Str} {e : Expr} (hc : X.calm = true) (tk : L2N.Takes X W) (hx : T.xA c = some C) (mk : L2N.PMk X e (fun _ H Q => Q (.ref C) none H)) : PS X (.Raise (some e) none pos) (tS (gx X T) W (sRaise c)) :=
  (L2N.ps_raise hc tk mk).imp fun N σ H ⟨ε, μ, S, sr, hs, h⟩ => h C σ μ H hx Gr.refl hs sr
theorem psd_raise1 {c : Str} (hc : X.calm = true) (tk : L2N.Takes X W) (hx : T.xA c = some C) (F : ExcC X.K C) (gC : X.mg x = some (.ref C)) (hg : Gl X x) (hdb : (x == ("__debug__" : Str)) = false := by decide) :
    PS X (.Raise (some (.Call (.Name x p) [.Constant (.str m) j p2] [] pos)) none pos2) (tS (gx X T) W (sRaise c)) := psd_raiseOf hc tk hx (F.xin.elim (fun xin => L2N.pmk_own PySem.F.excBase_Exception xin gC F.kp (raises_own F.sb F.ty) hg hdb) fun xin => L2N.pmk_own PySem.F.excBase_ValueError xin gC F.kp (raises_own F.sb F.ty) hg hdb)
end
end DL
namespace DL.KS
open PySem PySem.Spec PyProof.Rows L2
variable {K : Type} [DecidableEq K]
section
variable {lt : K → K → Bool}
def ins1 (lt : K → K → Bool) (x : K) : List K → List K
  | [] => [x]
  | y :: r => if lt x y = true then x :: y :: r else if x = y then y :: r else y :: ins1 lt x r
def rise (lt : K → K → Bool) (ks : List K) : List K := ks.foldr (ins1 lt) []
abbrev Rising (lt : K → K → Bool) (ks : List K) : Prop := ks.Pairwise fun a b => lt a b = true
theorem mem_ins1 (O : Ord lt) {x z : K} : ∀ {l : List K}, z ∈ ins1 lt x l ↔ z = x ∨ z ∈ l
  | [] => by simp [ins1]
  | y :: r => by
    unfold ins1
    split
    · simp
    · split
      · rename_i e
        subst e
        simp
      · rw [List.mem_cons, mem_ins1 O, List.mem_cons]
        constructor
        · rintro (h | h | h)
          · exact .inr (.inl h)
          · exact .inl h
          · exact .inr (.inr h)
        · rintro (h | h | h)
          · exact .inr (.inl h)
          · exact .inl h
          · exact .inr (.inr h)
theorem mem_rise (O : Ord lt) {z : K} : ∀ {l : List K}, z ∈ rise lt l ↔ z ∈ l
  | [] => Iff.rfl
  | x :: l => by
    show z ∈ ins1 lt x (rise lt l) ↔ _
    rw [mem_ins1 O, mem_rise O, List.mem_cons]
end
section
end
end DL.KS
namespace DL
open PySem L2
open KS (Kd Takes Ord rise Rising kV tLt sLt)
section
end
end DL
namespace DL.KS
open PySem L2 PyProof.Rows
section
end
section
end
section
end
end DL.KS
namespace DL
open PySem PySem.Spec PyProof.Rows L2
section
end
section
end
end DL
namespace DL
open PySem L2
variable {X : Cx} {T : Gt} {W : WX}
def firstAt (z : Str) : List Str → Option Nat
  | [] => none
  | y :: r => if y = z then some 0 else (firstAt z r).map (· + 1)
end DL
namespace DL
open PySem L2
open KS (Kd Takes Ord rise Rising kV tLt sLt)
section
variable {X : Cx} {T : Gt} {W : WX} {K : Type} [DecidableEq K]
def dRev (a : Den) : Den := fun ε S => (a ε S).bind fun d S => match litems S d with
  | some xs => .ok (.ref S.length) (S ++ [.lst xs.reverse])
  | none => .bad
theorem rvs_rev {F : PySem.W.Frag} {μ : List Addr} {H : Hp} : ∀ {xs : List V} {ds : List D}, RVs F μ H xs ds → RVs F μ H xs.reverse ds.reverse
  | _, _, .nil => .nil
  | _, _, .cons h t => by
    rw [List.reverse_cons, List.reverse_cons]
    exact (rvs_rev t).append (.cons h .nil)
theorem pd_rev {e : Expr} {a : Den} {k : Nat} {p1 p2 p3 pos : Pos} (ha : PE X e (tD (gx X T) W a)) : PE X (.Subscript e (.Slice none none (some (.UnaryOp .USub (.Constant (.int 1) k p1) p2)) p3) pos) (tD (gx X T) W (dRev a)) :=
  (pe_revL ha).imp fun σ H Q ⟨ε, μ, S, sr, hs, h⟩ => ⟨ε, μ, S, sr, hs, (wR.bind (Rl := rlV (gx X T)) sr h).imp fun v H1 ⟨d, μ1, S1, g1, hs1, sr1, r1, h1⟩ => by
    split at h1
    · rename_i xs hx
      obtain ⟨l, ys, rfl, hl, rs⟩ := litems_of hs1 r1 hx
      exact ⟨l, ys, rfl, hl, fun p hp => h1 _ _ _ (Gr.obj hp) (hs1.grow hp ⟨_, upd_same, (rvs_rev rs).mono (Gr.obj hp)⟩) (.ref hs1.last)⟩
    · exact h1.elim⟩
end
end DL
namespace DL
open PySem PySem.Spec PyProof.Rows L2
section
end
end DL
namespace DL.KS
open PySem PySem.Spec PyProof.Rows L2
section
end
end DL.KS
namespace DL
open PySem PySem.Spec PyProof.Rows L2
open PySem.W (maxOf DatumOrd max_list_datum_default int_of_holds HoldAll)
section
end
end DL
namespace DL
open PySem L2 PyProof.Rows
section
end
end DL
set_option maxHeartbeats 2000000
namespace DL
open PySem PySem.Spec PyProof.Rows L2
section
end
section
end
section
variable {X : Cx} {T : Gt} {W : WX}
def lcX (src : Src) (g : GDen) (e : Den) (vs : List Nat) (ε : Env) : Nat → Nat → List D → Sto → R (List D)
  | 0, _, _, _ => .bad
  | m + 1, i, acc, S => match src S with
    | none => .bad
    | some ds => match ds[i]? with
      | none => .ok acc S
      | some d => match g d (wipeE ε vs) S with
        | none => .bad
        | some ε1 => (e ε1 S).bind fun x S => if acc.length < big then lcX src g e vs ε m (i + 1) (acc ++ [x]) S else .bad
def dLcX (it : IDen) (g : GDen) (e : Den) (vs : List Nat) : Den := fun ε S => (it ε S).bind fun src S => match src S with
  | some ds => (lcX src g e vs ε (ds.length + 1) 0 [] S).bind lcEnd
  | none => .bad
end
end DL
set_option maxHeartbeats 1000000
namespace DL
open PySem L2
open KS (sLt)
section
end
end DL
namespace DL
open PySem PySem.Spec PyProof.Rows L2
section
end
end DL
namespace DL
open PySem PySem.Spec PyProof.Rows L2
section
end
section
end
end DL
namespace DL
open PySem PySem.Spec PyProof.Rows L2
section
end
section
end
end DL
namespace DL
open PySem L2 PyProof.Rows
section
end
end DL
namespace DL
open PySem L2 PyProof.Rows
section
end
end DL
namespace DL
open PySem PySem.Spec PyProof.Rows L2
section
end
end DL
set_option maxHeartbeats 2000000
namespace L2H
open PySem PySem.Spec PyProof.Rows L2 HotX
section
variable {prog : Program} {w : World} {A : Around} {E : Value → Shared → Prop} {s : Shared}
theorem HotAt.kept {x1 : Addr} {h h' : Heap} (hot : HotAt A x1 h) (k : ∀ o, h.get? x1 = some o → h'.get? x1 = some o) : HotAt A x1 h' := by
  obtain ⟨hh, o, vs, e, d, c⟩ := hot
  exact ⟨hh, o, vs, k o e, d, c⟩
end
section
end
end L2H
namespace L2H
open PySem PySem.Spec PyProof.Rows L2 HotX
section
end
theorem PIH.imp {X : Cx} {tg e : Expr} {t t' : TI} (h : PIH X tg e t) (q : ∀ σ H Q, t' σ H Q → t σ H Q) : PIH X tg e t' := ⟨fun pins s σ H Q I z => h.run pins s σ H Q I (q _ _ _ z)⟩
end L2H
set_option maxHeartbeats 1000000
namespace L2H
open PySem PySem.Spec PyProof.Rows L2
theorem RoomH.units {k : Nat} {A : Around} (r : RoomH k A) : A.units + 64 < cLine := by have := r.un; omega
theorem RoomH.u65 {k : Nat} {A : Around} (r : RoomH k A) : A.units + 65 < cLine := by have := r.un; omega
end L2H
namespace DL
open PySem PySem.Spec PyProof.Rows L2
open L2H (HotC RoomH FnH PIH)
section
section
end
end
end DL
set_option maxHeartbeats 2000000
namespace L2H
open PySem PySem.Spec PyProof.Rows L2 HotX
section
end
end L2H
namespace DL
open PySem PySem.Spec PyProof.Rows L2
open L2H (HotC RoomH Hot1)
section
end
end DL
set_option maxHeartbeats 1000000
namespace DL
open PySem PySem.Spec PyProof.Rows L2
open L2H (HotC RoomH FnH PIH)
section
end
end DL
set_option maxHeartbeats 4000000
namespace DL
open PySem PySem.Spec L2 L2N
variable {X : Cx} {T : Gt} {W : WX}
def dPop (o : Den) : Den := fun ε S => (o ε S).bind fun l S => match lstAt S l with
  | some (n, ds) => (match ds.reverse with
    | [] => .bad
    | d :: es => .ok d (S.set n (.lst es.reverse)))
  | none => .bad
theorem rvs_last {F : PySem.W.Frag} {μ : List Addr} {H : Hp} {xs : List V} {ds es : List D} {d : D} (rs : RVs F μ H xs ds) (e : ds.reverse = d :: es) : ∃ y ys, xs = ys ++ [y] ∧ RV F μ H y d ∧ RVs F μ H ys es.reverse := by
  have z := rvs_rev rs
  rw [e] at z
  generalize hq : xs.reverse = q at z
  cases z with
  | cons h t =>
    rename_i y ys
    refine ⟨y, ys.reverse, ?_, h, rvs_rev t⟩
    rw [← List.reverse_reverse xs, hq, List.reverse_cons]
theorem pd_pop {o : Expr} {apos cpos : Pos} {a : Den} (ha : PE X o (tD (gx X T) W a))
    (hbase : attributeBase o "pop" X.env (eval o X.env) = eval o X.env := by rfl) (hline : (apos.endLine == cpos.line) = true := by rfl) :
    PE X (.Call (.Attribute o "pop" apos) [] [] cpos) (tD (gx X T) W (dPop a)) :=
  (pe_bm0 PySem.F.plainAttrs_list PySem.F.slot_list_pop PySem.F.type_list_pop mt_pop ha hbase hline).imp fun σ H Q ⟨ε, μ, S, sr, hs, h⟩ => ⟨ε, μ, S, sr, hs, (wR.bind (Rl := rlV (gx X T)) sr h).imp fun v H1 ⟨d, μ1, S1, g1, hs1, sr1, r1, h1⟩ => by
    split at h1
    · rename_i n ds hz
      obtain ⟨p, xs, rfl, en, hp, rs⟩ := lstAt_of hs1 r1 hz
      split at h1
      · exact h1.elim
      · rename_i d es he
        obtain ⟨y, ys, rfl, ry, rys⟩ := rvs_last rs he
        have g3 : Gr μ1 H1 μ1 (upd H1 p (.lst ys)) := Gr.write (List.mem_of_getElem? en)
        refine ⟨.inl ⟨rfl, _, .inl (.inl hp)⟩, p, ys ++ [y], y, rfl, rfl, hp, by simp, ?_⟩
        rw [List.dropLast_concat]
        exact h1 _ _ _ g3 (hs1.put en ⟨_, upd_same, rys.mono g3⟩) (ry.mono g3)
    · exact h1.elim⟩
end DL
namespace DL
open PySem PySem.Spec L2 L2N
variable {X : Cx} {T : Gt} {W : WX}
theorem rvs_strs {F : PySem.W.Frag} {μ : List Addr} {H : Hp} : ∀ ys : List Str, RVs F μ H (ys.map V.str) (ys.map D.str)
  | [] => .nil
  | y :: ys => .cons (.str y) (rvs_strs ys)
theorem rvs_texts {F : PySem.W.Frag} {μ : List Addr} {H : Hp} : ∀ {ys : List Str} {xs : List V}, RVs F μ H xs (ys.map D.str) → xs = ys.map V.str
  | [], _, .nil => rfl
  | y :: ys, _, .cons r t => by
    cases r
    rw [rvs_texts t]
    rfl
def strsOf : List D → Option (List Str)
  | [] => some []
  | .str x :: ds => (strsOf ds).map (x :: ·)
  | _ => none
theorem strsOf_eq : ∀ {ds : List D} {ys : List Str}, strsOf ds = some ys → ds = ys.map D.str
  | [], ys, h => by cases h; rfl
  | .str x :: ds, ys, h => by
    simp only [strsOf] at h
    cases e : strsOf ds with
    | none => rw [e] at h; cases h
    | some zs =>
      rw [e] at h
      cases h
      rw [strsOf_eq e]
      rfl
  | .non :: ds, ys, h => by cases h
  | .bl _ :: ds, ys, h => by cases h
  | .int _ :: ds, ys, h => by cases h
  | .tup _ :: ds, ys, h => by cases h
  | .seq _ :: ds, ys, h => by cases h
  | .ref _ :: ds, ys, h => by cases h
def dSplit (o a : Den) : Den := fun ε S => (o ε S).bind fun x S => match x with
  | .str z => (a ε S).bind fun y S => (match y with
    | .str b => if (b.length == 0) = false ∧ z.length + 2 ≤ big then .ok (.ref S.length) (S ++ [.lst ((Txt.split z b).map D.str)]) else .bad
    | _ => .bad)
  | _ => .bad
theorem pd_split {o e : Expr} {apos pos : Pos} {a b : Den} (ha : PE X o (tD (gx X T) W a)) (hb : PE X e (tD (gx X T) W b)) (hs : starEach [e] X.env = [(false, eval e X.env)] := by rfl)
    (hbase : attributeBase o "split" X.env (eval o X.env) = eval o X.env := by rfl) (hline : (apos.endLine == pos.line) = true := by rfl) : PE X (.Call (.Attribute o "split" apos) [e] [] pos) (tD (gx X T) W (dSplit a b)) :=
  (pe_split ha hb hs hbase hline).imp fun σ H Q ⟨ε, μ, S, sr, hs, h⟩ => ⟨ε, μ, S, sr, hs, (wR.bind (Rl := rlV (gx X T)) sr h).imp fun v H1 ⟨d, μ1, S1, g1, hs1, sr1, r1, h1⟩ => by
    split at h1
    · rename_i z
      cases r1
      refine ⟨⟨z, rfl⟩, ε, μ1, S1, sr1, hs1, (wR.bind (Rl := rlV (gx X T)) sr1 h1).imp fun w H2 ⟨e, μ2, S2, g2, hs2, sr2, r2, h2⟩ => ?_⟩
      split at h2
      · rename_i b
        split at h2
        · rename_i hc
          cases r2
          exact ⟨z, b, rfl, rfl, hc.1, Nat.le_trans hc.2 (by decide), fun p hp => h2 _ _ _ (Gr.obj hp) (hs2.grow hp ⟨_, upd_same, rvs_strs _⟩) (.ref hs2.last)⟩
        · exact h2.elim
      · exact h2.elim
    · exact h1.elim⟩
def dJoin (o a : Den) : Den := fun ε S => (o ε S).bind fun x S => match x with
  | .str z => (a ε S).bind fun y S => (match (litems S y).bind strsOf with
    | some ys => if (ys.map (·.length)).sum + ys.length * z.length ≤ big then .ok (.str (Txt.join z ys)) S else .bad
    | none => .bad)
  | _ => .bad
theorem pd_join {o e : Expr} {apos pos : Pos} {a b : Den} (ha : PE X o (tD (gx X T) W a)) (hb : PE X e (tD (gx X T) W b)) (hs : starEach [e] X.env = [(false, eval e X.env)] := by rfl)
    (hbase : attributeBase o "join" X.env (eval o X.env) = eval o X.env := by rfl) (hline : (apos.endLine == pos.line) = true := by rfl) : PE X (.Call (.Attribute o "join" apos) [e] [] pos) (tD (gx X T) W (dJoin a b)) :=
  (pe_join ha hb hs hbase hline).imp fun σ H Q ⟨ε, μ, S, sr, hs, h⟩ => ⟨ε, μ, S, sr, hs, (wR.bind (Rl := rlV (gx X T)) sr h).imp fun v H1 ⟨d, μ1, S1, g1, hs1, sr1, r1, h1⟩ => by
    split at h1
    · rename_i z
      cases r1
      refine ⟨⟨z, rfl⟩, ε, μ1, S1, sr1, hs1, (wR.bind (Rl := rlV (gx X T)) sr1 h1).imp fun w H2 ⟨e, μ2, S2, g2, hs2, sr2, r2, h2⟩ => ?_⟩
      split at h2
      · rename_i ys hy
        split at h2
        · rename_i hc
          cases hl : litems S2 e with
          | none => rw [hl] at hy; cases hy
          | some ds =>
            rw [hl] at hy
            have hd := strsOf_eq (show strsOf ds = some ys from hy)
            obtain ⟨l, xs, rfl, hq, rs⟩ := litems_of hs2 r2 hl
            rw [hd] at rs
            rw [rvs_texts rs] at hq
            exact ⟨z, l, ys, rfl, rfl, .inl hq, Nat.le_trans hc (by decide), wR.here hs2 h2 (.str _)⟩
        · exact h2.elim
      · exact h2.elim
    · exact h1.elim⟩
def fIntS : Fn := fun ds S => match ds with
  | [.str a] => (match PySem.intText? a with
    | some n => if a.length ≤ 640 then .ok (.int n) S else .bad
    | none => .bad)
  | _ => .bad
theorem cd_intS : CallD X T (.type "int") fIntS := by
  refine ⟨_, call_int_str, fun W σ μ S H vs ds Q hs r h => ?_⟩
  unfold fIntS at h
  split at h
  · split at h
    · split at h
      · obtain ⟨v, rfl, r1⟩ := one_of r
        cases r1
        exact ⟨_, _, rfl, ‹_›, ‹_›, wR.here hs h (.int _)⟩
      · exact h.elim
    · exact h.elim
  · exact h.elim
end DL
set_option maxHeartbeats 2000000
namespace LZ
open PySem PySem.Spec PyProof.Rows L2
abbrev tupO (x y : Value) : Obj := { cls := .type "tuple", data := .seq #[x, y] }
structure ZG (n : Nat) (Rel : Nat → Value → Value → Prop) (lo : Addr) (h : Heap) (as : List Addr) : Prop where
  rise : as.Pairwise (· < ·)
  above : ∀ a ∈ as, lo < a
  pairs : ∀ (j : Nat) (a : Addr), as[j]? = some a → ∃ x y, Rel j x y ∧ h.get? a = some (tupO x y)
theorem ZG.there {n : Nat} {Rel : Nat → Value → Value → Prop} {lo : Addr} {h : Heap} {as : List Addr} (g : ZG n Rel lo h as) {a : Addr} (ha : a ∈ as) : a < h.objs.size := by
  obtain ⟨j, hj⟩ := List.mem_iff_getElem?.mp ha
  obtain ⟨_, _, _, e⟩ := g.pairs j a hj
  exact Heap.lt_size e
section
end
end LZ
namespace LZ
open PySem PySem.Spec PyProof.Rows L2
section
end
end LZ
set_option maxHeartbeats 4000000
namespace DL
open PySem PySem.Spec L2
end DL
set_option maxHeartbeats 2000000
namespace DL
open PySem L2 PyProof.Rows
section
end
end DL
set_option maxHeartbeats 1000000
namespace DL
open PySem L2
variable {X : Cx} {T : Gt}
def fStrX : Fn := fun ds S => match ds with
  | [.int i] => if i.natAbs.log2 < 1920 then .ok (.str (toString i)) S else .bad
  | [.str x] => .ok (.str x) S
  | _ => .bad
theorem cd_strX : CallD X T (.type "str") fStrX := by
  refine ⟨_, CallR.or call_str_int SkE.call_str_str, fun W σ μ S H vs ds Q hs r h => ?_⟩
  unfold fStrX at h
  split at h
  · split at h
    · obtain ⟨v, rfl, r1⟩ := one_of r
      cases r1
      exact .inl ⟨_, rfl, ‹_›, wR.here hs h (.str _)⟩
    · exact h.elim
  · obtain ⟨v, rfl, r1⟩ := one_of r
    cases r1
    exact .inr ⟨_, rfl, wR.here hs h (.str _)⟩
  · exact h.elim
end DL
namespace DL
open PySem L2 DL
inductive CF where
  | f_is_number
  | f_is_word
  | f_is_shelf
  | m_Reader_init
  | m_Reader_is_deed
  | m_Reader_is_call
  | f_is_leaf
  | f_is_deed
  | f__law_cell
  | f__law_drawn
  | f__law_leaf
  | f__law_deed
  | f__law_call
  | f__law_rules
  | f__law_weight
  | f__law_light
  | m_Run_touch
  | m_Run_worth
  | m_Run_at_shelf
  | m_Run_with_names
  | m_Run_put_together
  | m_World_touched
  | f__law_touch
  | f__law_worth
  | f__law_called
  | f__law_behind
  | f_words_for
  | f_written
  | m_Words_init
  | m_Words_next_word
  | m_Words_thing
  | m_Words_row
  | f_read
def b_f_is_number (c c2 : CF → Fn) : SDen :=
    (sRet (dAndV (dIsi "int" (dVar 0)) (dAndV (dNotV (dIsi "bool" (dVar 0))) (dChain oLe oLt (dC (.int 0)) (dVar 0) (dC (.int 1009))))))
def b_f_is_word (c c2 : CF → Fn) : SDen :=
    (sSeq (sIf (bOr (bNot (dTest (dIsi "str" (dVar 0)))) (bOr (bNot (dTest (dChain oLe oLe (dC (.int 1)) (dFn fLen (dCons (dVar 0) dNil)) (dC (.int 4))))) (dTest (dBin oNotIn (dBin oGet (dVar 0) (dC (.int 0))) (dVar 1))))) (sRet (dC (.bl false))) sNil)
    (sRet (dFn fAll (dCons (dLc (iAny (dSl (dVar 0) (dPart (dC (.int 1))) dNoPart)) (gN 2) bYes (dBin oIn (dVar 2) (dC (.str "0123456789"))) [2]) dNil))))
def b_f_is_shelf (c c2 : CF → Fn) : SDen :=
    (sSeq (sIf (dTest (dCall 2 (c .f_is_word) (dCons (dVar 0) (dCons (dC (.str "pq")) dNil)))) (sRet (dBin oIn (dVar 0) (dVar 1))) sNil)
    (sRet (dAndV (dIsi "str" (dVar 0)) (dAndV (dBin oEq (dFn fLen (dCons (dVar 0) dNil)) (dC (.int 1))) (dBin oIn (dVar 0) (dC (.str "abcd")))))))
def b_m_Reader_init (c c2 : CF → Fn) : SDen :=
    (sSeq (sFldD "rules" (dVar 1) (dVar 0))
    (sSeq (sFldD "below" (dVar 2) (dVar 0))
    (sFldD "left" (dC (.int 60)) (dVar 0))))
def b_m_Reader_is_deed (c c2 : CF → Fn) : SDen :=
    (sSeq (sFldD "left" (dBin oSub (dFld "left" (dVar 0)) (dC (.int 1))) (dVar 0))
    (sSeq (sIf (bOr (dTest (dBin oLt (dFld "left" (dVar 0)) (dC (.int 0)))) (bOr (bNot (dTest (dIsi "tuple" (dVar 1)))) (bOr (dTest (dBin oEq (dFn fLen (dCons (dVar 1) dNil)) (dC (.int 0)))) (bNot (dTest (dIsi "str" (dBin oGet (dVar 1) (dC (.int 0))))))))) (sRet (dC (.bl false))) sNil)
    (sSeq (sAsg (dBin oGet (dVar 1) (dC (.int 0))) (gN 3))
    (sSeq (sIf (dTest (dBin oIn (dVar 3) (dTup (dCons (dC (.str "number")) (dCons (dC (.str "name")) (dCons (dC (.str "read")) (dCons (dC (.str "do")) (dCons (dC (.str "ask")) dNil)))))))) (sRet (dCall 2 (c .f_is_leaf) (dCons (dVar 1) (dCons (dVar 2) dNil)))) sNil)
    (sSeq (sIf (dTest (dBin oEq (dVar 3) (dC (.str "call")))) (sRet (dMeth "Reader" "is_call" 3 (c .m_Reader_is_call) (dVar 0) (dCons (dVar 1) (dCons (dVar 2) dNil)))) sNil)
    (sSeq (sIf (dTest (dBin oEq (dVar 3) (dC (.str "write")))) (sRet (dAndV (dBin oEq (dFn fLen (dCons (dVar 1) dNil)) (dC (.int 3))) (dAndV (dCall 2 (c .f_is_shelf) (dCons (dBin oGet (dVar 1) (dC (.int 1))) (dCons (dVar 2) dNil))) (dMeth "Reader" "is_deed" 3 (c .m_Reader_is_deed) (dVar 0) (dCons (dBin oGet (dVar 1) (dC (.int 2))) (dCons (dVar 2) dNil)))))) sNil)
    (sSeq (sIf (dTest (dBin oIn (dVar 3) (dTup (dCons (dC (.str "let")) (dCons (dC (.str "own")) dNil))))) (sSeq (sIf (bOr (dTest (dBin oNe (dFn fLen (dCons (dVar 1) dNil)) (dC (.int 4)))) (bNot (dTest (dCall 2 (c .f_is_word) (dCons (dBin oGet (dVar 1) (dC (.int 1))) (dCons (dBin oGet (dDisp [((dC (.str "let")), (dC (.str "xyz"))), ((dC (.str "own")), (dC (.str "pq")))]) (dVar 3)) dNil)))))) (sRet (dC (.bl false))) sNil)
    (sRet (dAndV (dMeth "Reader" "is_deed" 3 (c .m_Reader_is_deed) (dVar 0) (dCons (dBin oGet (dVar 1) (dC (.int 2))) (dCons (dVar 2) dNil))) (dMeth "Reader" "is_deed" 3 (c .m_Reader_is_deed) (dVar 0) (dCons (dBin oGet (dVar 1) (dC (.int 3))) (dCons (dBin oAdd (dVar 2) (dLst (dCons (dBin oGet (dVar 1) (dC (.int 1))) dNil))) dNil)))))) sNil)
    (sSeq (sAsg (dDisp [((dC (.str "add")), (dC (.int 3))), ((dC (.str "less")), (dC (.int 3))), ((dC (.str "then")), (dC (.int 3))), ((dC (.str "loop")), (dC (.int 3))), ((dC (.str "if")), (dC (.int 4))), ((dC (.str "say")), (dC (.int 2)))]) (gN 4))
    (sSeq (sIf (dTest (dBin oNe (dFn fLen (dCons (dVar 1) dNil)) (dGet2 (dVar 4) (dVar 3) (dC (.int 0))))) (sRet (dC (.bl false))) sNil)
    (sRet (dFn fAll (dCons (dLc (iAny (dSl (dVar 1) (dPart (dC (.int 1))) dNoPart)) (gN 5) bYes (dMeth "Reader" "is_deed" 3 (c .m_Reader_is_deed) (dVar 0) (dCons (dVar 5) (dCons (dVar 2) dNil))) [5]) dNil))))))))))))
def b_m_Reader_is_call (c c2 : CF → Fn) : SDen :=
    (sSeq (sIf (bOr (dTest (dBin oNe (dFn fLen (dCons (dVar 1) dNil)) (dC (.int 4)))) (bOr (bNot (dTest (dCall 1 (c .f_is_number) (dCons (dBin oGet (dVar 1) (dC (.int 1))) dNil)))) (dTest (dBin oGe (dBin oGet (dVar 1) (dC (.int 1))) (dFld "below" (dVar 0)))))) (sRet (dC (.bl false))) sNil)
    (sSeq (sAsg (dBin oGet (dFld "rules" (dVar 0)) (dBin oGet (dVar 1) (dC (.int 1)))) (gT 3 (gsCons (gN 3) (gsCons (gN 4) (gsCons (gN 5) gsNil)))))
    (sSeq (sIf (bOr (bNot (dTest (dIsi "tuple" (dBin oGet (dVar 1) (dC (.int 2)))))) (bNot (dTest (dIsi "tuple" (dBin oGet (dVar 1) (dC (.int 3))))))) (sRet (dC (.bl false))) sNil)
    (sSeq (sIf (bOr (dTest (dBin oNe (dFn fLen (dCons (dBin oGet (dVar 1) (dC (.int 2))) dNil)) (dFn fLen (dCons (dVar 3) dNil)))) (dTest (dBin oNe (dFn fLen (dCons (dBin oGet (dVar 1) (dC (.int 3))) dNil)) (dFn fLen (dCons (dVar 4) dNil))))) (sRet (dC (.bl false))) sNil)
    (sRet (dFn fAll (dCons (dLc (iAny (dBin oAdd (dBin oGet (dVar 1) (dC (.int 2))) (dBin oGet (dVar 1) (dC (.int 3))))) (gN 6) bYes (dMeth "Reader" "is_deed" 3 (c .m_Reader_is_deed) (dVar 0) (dCons (dVar 6) (dCons (dVar 2) dNil))) [6]) dNil)))))))
def b_f_is_leaf (c c2 : CF → Fn) : SDen :=
    (sSeq (sIf (dTest (dBin oEq (dBin oGet (dVar 0) (dC (.int 0))) (dC (.str "ask")))) (sRet (dBin oEq (dFn fLen (dCons (dVar 0) dNil)) (dC (.int 1)))) sNil)
    (sSeq (sIf (dTest (dBin oNe (dFn fLen (dCons (dVar 0) dNil)) (dC (.int 2)))) (sRet (dC (.bl false))) sNil)
    (sSeq (sIf (dTest (dBin oEq (dBin oGet (dVar 0) (dC (.int 0))) (dC (.str "number")))) (sRet (dCall 1 (c .f_is_number) (dCons (dBin oGet (dVar 0) (dC (.int 1))) dNil))) sNil)
    (sSeq (sIf (dTest (dBin oEq (dBin oGet (dVar 0) (dC (.int 0))) (dC (.str "read")))) (sRet (dCall 2 (c .f_is_shelf) (dCons (dBin oGet (dVar 0) (dC (.int 1))) (dCons (dVar 1) dNil)))) sNil)
    (sRet (dAndV (dCall 2 (c .f_is_word) (dCons (dBin oGet (dVar 0) (dC (.int 1))) (dCons (dBin oGet (dDisp [((dC (.str "name")), (dC (.str "xyz"))), ((dC (.str "do")), (dC (.str "fg")))]) (dBin oGet (dVar 0) (dC (.int 0)))) dNil))) (dBin oIn (dBin oGet (dVar 0) (dC (.int 1))) (dVar 1))))))))
def b_f_is_deed (c c2 : CF → Fn) : SDen :=
    (sRet (dMeth "Reader" "is_deed" 3 (c .m_Reader_is_deed) (dMake "Reader" 3 (c2 .m_Reader_init) (dCons (dVar 0) (dCons (dFn fLen (dCons (dVar 0) dNil)) dNil))) (dCons (dVar 1) (dCons (dLst dNil) dNil))))
def b_f__law_cell (c c2 : CF → Fn) : SDen :=
    (sSeq (sIf (dTest (dBin oEq (dVar 0) (dLst dNil))) (sRet (dBin oMul (dC (.int 7)) (dVar 1))) sNil)
    (sRet (dBin oAdd (dBin oGet (dVar 0) (dBin oMod (dVar 1) (dFn fLen (dCons (dVar 0) dNil)))) (dBin oMul (dC (.int 6553)) (dBin oDiv (dVar 1) (dFn fLen (dCons (dVar 0) dNil)))))))
def b_f__law_drawn (c c2 : CF → Fn) : SDen :=
    (sSeq (sAsg (dBin oMod (dBin oAdd (dBin oMul (dBin oMod (dCall 2 (c .f__law_cell) (dCons (dVar 0) (dCons (dVar 1) dNil))) (dC (.int 2147483563))) (dC (.int 69069))) (dBin oMul (dC (.int 104723)) (dBin oAdd (dVar 1) (dC (.int 1))))) (dC (.int 2147483563))) (gN 3))
    (sSeq (sAsg (dBin oMod (dBin oAdd (dBin oMul (dVar 3) (dVar 3)) (dBin oDiv (dVar 3) (dC (.int 3)))) (dC (.int 2147483399))) (gN 3))
    (sRet (dBin oMod (dBin oDiv (dBin oMod (dBin oAdd (dBin oMul (dVar 3) (dVar 3)) (dBin oDiv (dVar 3) (dC (.int 7)))) (dC (.int 2147483647))) (dC (.int 11))) (dVar 2)))))
def b_f__law_leaf (c c2 : CF → Fn) : SDen :=
    (sSeq (sAsg (dVar 2) (gT 3 (gsCons (gN 3) (gsCons (gN 4) (gsCons (gN 5) gsNil)))))
    (sSeq (sAsg (dCall 3 (c .f__law_drawn) (dCons (dVar 0) (dCons (dVar 1) (dCons (dC (.int 8)) dNil)))) (gN 6))
    (sSeq (sIf (dTest (dBin oLt (dVar 6) (dC (.int 2)))) (sRet (dTup (dCons (dC (.str "number")) (dCons (dBin oGet (dLst (dCons (dC (.int 0)) (dCons (dC (.int 1)) (dCons (dC (.int 2)) (dCons (dC (.int 3)) (dCons (dC (.int 7)) (dCons (dC (.int 1008)) dNil))))))) (dCall 3 (c .f__law_drawn) (dCons (dVar 0) (dCons (dBin oAdd (dVar 1) (dC (.int 1))) (dCons (dC (.int 6)) dNil))))) dNil)))) sNil)
    (sSeq (sIf (bAnd (dTest (dBin oEq (dVar 6) (dC (.int 2)))) (dTest (dBin oNe (dVar 3) (dTup dNil)))) (sRet (dTup (dCons (dC (.str "name")) (dCons (dBin oGet (dVar 3) (dCall 3 (c .f__law_drawn) (dCons (dVar 0) (dCons (dBin oAdd (dVar 1) (dC (.int 1))) (dCons (dFn fLen (dCons (dVar 3) dNil)) dNil))))) dNil)))) sNil)
    (sSeq (sIf (bAnd (dTest (dBin oEq (dVar 6) (dC (.int 3)))) (dTest (dBin oNe (dVar 5) (dTup dNil)))) (sRet (dTup (dCons (dC (.str "do")) (dCons (dBin oGet (dVar 5) (dCall 3 (c .f__law_drawn) (dCons (dVar 0) (dCons (dBin oAdd (dVar 1) (dC (.int 1))) (dCons (dFn fLen (dCons (dVar 5) dNil)) dNil))))) dNil)))) sNil)
    (sSeq (sIf (dTest (dBin oEq (dVar 6) (dC (.int 4)))) (sRet (dTup (dCons (dC (.str "ask")) dNil))) sNil)
    (sSeq (sAsg (dBin oAdd (dTup (dCons (dC (.str "a")) (dCons (dC (.str "b")) (dCons (dC (.str "c")) (dCons (dC (.str "d")) dNil))))) (dBin oMul (dVar 4) (dC (.int 3)))) (gN 7))
    (sRet (dTup (dCons (dC (.str "read")) (dCons (dBin oGet (dVar 7) (dCall 3 (c .f__law_drawn) (dCons (dVar 0) (dCons (dBin oAdd (dVar 1) (dC (.int 1))) (dCons (dFn fLen (dCons (dVar 7) dNil)) dNil))))) dNil)))))))))))
def b_f__law_deed (c c2 : CF → Fn) : SDen :=
    (sSeq (sAsg (dCall 3 (c .f__law_drawn) (dCons (dVar 0) (dCons (dVar 1) (dCons (dC (.int 15)) dNil)))) (gN 5))
    (sSeq (sIf (bOr (dTest (dBin oEq (dVar 2) (dC (.int 0)))) (dTest (dBin oLt (dVar 5) (dC (.int 2))))) (sRet (dCall 3 (c .f__law_leaf) (dCons (dVar 0) (dCons (dBin oAdd (dVar 1) (dC (.int 1))) (dCons (dVar 3) dNil))))) sNil)
    (sSeq (sIf (bAnd (dTest (dBin oLt (dVar 5) (dC (.int 4)))) (dTest (dBin oNe (dVar 4) (dTup dNil)))) (sRet (dCall 5 (c .f__law_call) (dCons (dVar 0) (dCons (dVar 1) (dCons (dVar 2) (dCons (dVar 3) (dCons (dVar 4) dNil))))))) sNil)
    (sSeq (sAsg (dCall 5 (c .f__law_deed) (dCons (dVar 0) (dCons (dBin oAdd (dBin oMul (dVar 1) (dC (.int 3))) (dC (.int 7))) (dCons (dBin oSub (dVar 2) (dC (.int 1))) (dCons (dVar 3) (dCons (dVar 4) dNil)))))) (gN 6))
    (sSeq (sIf (dTest (dBin oLt (dVar 5) (dC (.int 6)))) (sSeq (sAsg (dBin oAdd (dTup (dCons (dC (.str "a")) (dCons (dC (.str "b")) (dCons (dC (.str "c")) (dCons (dC (.str "d")) dNil))))) (dBin oMul (dBin oGet (dVar 3) (dC (.int 1))) (dC (.int 3)))) (gN 7))
    (sRet (dTup (dCons (dC (.str "write")) (dCons (dBin oGet (dVar 7) (dCall 3 (c .f__law_drawn) (dCons (dVar 0) (dCons (dBin oAdd (dVar 1) (dC (.int 3))) (dCons (dFn fLen (dCons (dVar 7) dNil)) dNil))))) (dCons (dVar 6) dNil)))))) sNil)
    (sSeq (sIf (dTest (dBin oEq (dVar 5) (dC (.int 6)))) (sRet (dTup (dCons (dC (.str "say")) (dCons (dVar 6) dNil)))) sNil)
    (sSeq (sIf (dTest (dBin oEq (dVar 5) (dC (.int 7)))) (sSeq (sAsg (dBin oGet (dLst (dCons (dC (.str "x")) (dCons (dC (.str "y")) (dCons (dC (.str "x1")) dNil)))) (dCall 3 (c .f__law_drawn) (dCons (dVar 0) (dCons (dBin oAdd (dVar 1) (dC (.int 3))) (dCons (dC (.int 3)) dNil))))) (gN 8))
    (sRet (dTup (dCons (dC (.str "let")) (dCons (dVar 8) (dCons (dVar 6) (dCons (dCall 5 (c .f__law_deed) (dCons (dVar 0) (dCons (dBin oAdd (dBin oMul (dVar 1) (dC (.int 3))) (dC (.int 23))) (dCons (dBin oSub (dVar 2) (dC (.int 1))) (dCons (dBin oAdd (dTup (dCons (dBin oAdd (dBin oGet (dVar 3) (dC (.int 0))) (dTup (dCons (dVar 8) dNil))) dNil)) (dSl (dVar 3) (dPart (dC (.int 1))) dNoPart)) (dCons (dVar 4) dNil)))))) dNil))))))) sNil)
    (sSeq (sIf (dTest (dBin oEq (dVar 5) (dC (.int 8)))) (sSeq (sAsg (dBin oGet (dLst (dCons (dC (.str "p")) (dCons (dC (.str "q")) dNil))) (dCall 3 (c .f__law_drawn) (dCons (dVar 0) (dCons (dBin oAdd (dVar 1) (dC (.int 3))) (dCons (dC (.int 2)) dNil))))) (gN 8))
    (sSeq (sAsg (dTup (dCons (dBin oGet (dVar 3) (dC (.int 0))) (dCons (dBin oAdd (dBin oGet (dVar 3) (dC (.int 1))) (dTup (dCons (dVar 8) dNil))) (dCons (dBin oGet (dVar 3) (dC (.int 2))) dNil)))) (gN 9))
    (sRet (dTup (dCons (dC (.str "own")) (dCons (dVar 8) (dCons (dVar 6) (dCons (dCall 5 (c .f__law_deed) (dCons (dVar 0) (dCons (dBin oAdd (dBin oMul (dVar 1) (dC (.int 3))) (dC (.int 23))) (dCons (dBin oSub (dVar 2) (dC (.int 1))) (dCons (dVar 9) (dCons (dVar 4) dNil)))))) dNil)))))))) sNil)
    (sSeq (sAsg (dCall 5 (c .f__law_deed) (dCons (dVar 0) (dCons (dBin oAdd (dBin oMul (dVar 1) (dC (.int 3))) (dC (.int 41))) (dCons (dBin oSub (dVar 2) (dC (.int 1))) (dCons (dVar 3) (dCons (dVar 4) dNil)))))) (gN 10))
    (sSeq (sIf (dTest (dBin oEq (dVar 5) (dC (.int 9)))) (sRet (dTup (dCons (dC (.str "if")) (dCons (dVar 6) (dCons (dVar 10) (dCons (dCall 5 (c .f__law_deed) (dCons (dVar 0) (dCons (dBin oAdd (dBin oMul (dVar 1) (dC (.int 3))) (dC (.int 61))) (dCons (dBin oSub (dVar 2) (dC (.int 1))) (dCons (dVar 3) (dCons (dVar 4) dNil)))))) dNil)))))) sNil)
    (sRet (dBin oAdd (dBin oGet (dLst (dCons (dTup (dCons (dC (.str "then")) dNil)) (dCons (dTup (dCons (dC (.str "add")) dNil)) (dCons (dTup (dCons (dC (.str "less")) dNil)) (dCons (dTup (dCons (dC (.str "loop")) dNil)) (dCons (dTup (dCons (dC (.str "then")) dNil)) dNil)))))) (dBin oSub (dVar 5) (dC (.int 10)))) (dTup (dCons (dVar 6) (dCons (dVar 10) dNil)))))))))))))))
def b_f__law_call (c c2 : CF → Fn) : SDen :=
    (sSeq (sAsg (dCall 3 (c .f__law_drawn) (dCons (dVar 0) (dCons (dBin oAdd (dVar 1) (dC (.int 3))) (dCons (dFn fLen (dCons (dVar 4) dNil)) dNil)))) (gN 5))
    (sSeq (sAsg (dFn fLen (dCons (dBin oGet (dBin oGet (dVar 4) (dVar 5)) (dC (.int 0))) dNil)) (gN 6))
    (sSeq (sAsg (dLst dNil) (gN 7))
    (sSeq (sFor (iRange1 (dBin oAdd (dVar 6) (dFn fLen (dCons (dBin oGet (dBin oGet (dVar 4) (dVar 5)) (dC (.int 1))) dNil)))) (gN 8) (sExpr (dAppend (dVar 7) (dCall 5 (c .f__law_deed) (dCons (dVar 0) (dCons (dBin oAdd (dBin oAdd (dBin oMul (dVar 1) (dC (.int 3))) (dC (.int 7))) (dBin oMul (dC (.int 5)) (dVar 8))) (dCons (dBin oSub (dVar 2) (dC (.int 1))) (dCons (dVar 3) (dCons (dVar 4) dNil)))))))))
    (sRet (dTup (dCons (dC (.str "call")) (dCons (dVar 5) (dCons (dFn fTuple (dCons (dSl (dVar 7) dNoPart (dPart (dVar 6))) dNil)) (dCons (dFn fTuple (dCons (dSl (dVar 7) (dPart (dVar 6)) dNoPart) dNil)) dNil))))))))))
def b_f__law_rules (c c2 : CF → Fn) : SDen :=
    (sSeq (sAsg (dTup dNil) (gN 2))
    (sSeq (sFor (iRange1 (dCall 3 (c .f__law_drawn) (dCons (dVar 0) (dCons (dVar 1) (dCons (dC (.int 3)) dNil))))) (gN 3) (sSeq (sAsg (dBin oGet (dLst (dCons (dTup dNil) (dCons (dTup (dCons (dC (.str "x")) dNil)) (dCons (dTup (dCons (dC (.str "y")) (dCons (dC (.str "x")) dNil))) dNil)))) (dCall 3 (c .f__law_drawn) (dCons (dVar 0) (dCons (dBin oAdd (dBin oAdd (dVar 1) (dC (.int 1))) (dBin oMul (dC (.int 5)) (dVar 3))) (dCons (dC (.int 3)) dNil))))) (gN 4))
    (sSeq (sAsg (dBin oGet (dLst (dCons (dTup dNil) (dCons (dTup (dCons (dC (.str "f")) dNil)) (dCons (dTup (dCons (dC (.str "f")) (dCons (dC (.str "g1")) dNil))) dNil)))) (dCall 3 (c .f__law_drawn) (dCons (dVar 0) (dCons (dBin oAdd (dBin oAdd (dVar 1) (dC (.int 2))) (dBin oMul (dC (.int 5)) (dVar 3))) (dCons (dC (.int 3)) dNil))))) (gN 5))
    (sSeq (sAsg (dCall 5 (c .f__law_deed) (dCons (dVar 0) (dCons (dBin oAdd (dBin oAdd (dVar 1) (dC (.int 20))) (dBin oMul (dC (.int 7)) (dVar 3))) (dCons (dC (.int 2)) (dCons (dTup (dCons (dVar 4) (dCons (dTup dNil) (dCons (dVar 5) dNil)))) (dCons (dVar 2) dNil)))))) (gN 6))
    (sAsg (dBin oAdd (dVar 2) (dTup (dCons (dTup (dCons (dVar 4) (dCons (dVar 5) (dCons (dVar 6) dNil)))) dNil))) (gN 2))))))
    (sRet (dVar 2))))
def b_f__law_weight (c c2 : CF → Fn) : SDen :=
    (sSeq (sAsg (dBin oGet (dVar 1) (dC (.int 0))) (gN 3))
    (sSeq (sIf (dTest (dBin oIn (dVar 3) (dTup (dCons (dC (.str "number")) (dCons (dC (.str "name")) (dCons (dC (.str "ask")) (dCons (dC (.str "read")) dNil))))))) (sRet (dC (.int 1))) sNil)
    (sSeq (sIf (dTest (dBin oEq (dVar 3) (dC (.str "do")))) (sRet (dGet2 (dVar 2) (dBin oGet (dVar 1) (dC (.int 1))) (dC (.int 1)))) sNil)
    (sSeq (sIf (dTest (dBin oEq (dVar 3) (dC (.str "call")))) (sSeq (sAsg (dFn fDict (dCons (dLc (iZipD (dBin oGet (dBin oGet (dVar 0) (dBin oGet (dVar 1) (dC (.int 1)))) (dC (.int 1))) (dBin oGet (dVar 1) (dC (.int 3)))) (gT 2 (gsCons (gN 7) (gsCons (gN 8) gsNil))) bYes (dTup (dCons (dVar 7) (dCons (dCall 3 (c .f__law_weight) (dCons (dVar 0) (dCons (dVar 8) (dCons (dVar 2) dNil)))) dNil))) [7, 8]) dNil)) (gN 4))
    (sSeq (sAsg (dFn fSum (dCons (dLc (iAny (dBin oGet (dVar 1) (dC (.int 2)))) (gN 8) bYes (dCall 3 (c .f__law_weight) (dCons (dVar 0) (dCons (dVar 8) (dCons (dVar 2) dNil)))) [8]) dNil)) (gN 5))
    (sRet (dBin oAdd (dBin oAdd (dC (.int 1)) (dVar 5)) (dCall 3 (c .f__law_weight) (dCons (dVar 0) (dCons (dBin oGet (dBin oGet (dVar 0) (dBin oGet (dVar 1) (dC (.int 1)))) (dC (.int 2))) (dCons (dVar 4) dNil)))))))) sNil)
    (sSeq (sAsg (dLc (iAny (dSl (dVar 1) (dPart (dC (.int 1))) dNoPart)) (gN 8) (dTest (dIsi "tuple" (dVar 8))) (dCall 3 (c .f__law_weight) (dCons (dVar 0) (dCons (dVar 8) (dCons (dVar 2) dNil)))) [8]) (gN 6))
    (sSeq (sIf (dTest (dBin oEq (dVar 3) (dC (.str "loop")))) (sRet (dBin oAdd (dBin oAdd (dC (.int 1)) (dBin oGet (dVar 6) (dC (.int 0)))) (dBin oMul (dC (.int 3)) (dBin oGet (dVar 6) (dC (.int 1)))))) sNil)
    (sRet (dBin oAdd (dC (.int 1)) (dFn fSum (dCons (dVar 6) dNil))))))))))
def b_f__law_light (c c2 : CF → Fn) : SDen :=
    (sSeq (sAsg (dCall 5 (c .f__law_deed) (dCons (dVar 0) (dCons (dVar 1) (dCons (dVar 2) (dCons (dTup (dCons (dTup dNil) (dCons (dTup dNil) (dCons (dTup dNil) dNil)))) (dCons (dVar 3) dNil)))))) (gN 4))
    (sSeq (sIf (dTest (dBin oGt (dCall 3 (c .f__law_weight) (dCons (dVar 3) (dCons (dVar 4) (dCons dNewK dNil)))) (dC (.int 80)))) (sRet (dTup (dCons (dC (.str "read")) (dCons (dBin oGet (dC (.str "abcd")) (dCall 3 (c .f__law_drawn) (dCons (dVar 0) (dCons (dVar 1) (dCons (dC (.int 4)) dNil))))) dNil)))) sNil)
    (sRet (dVar 4))))
def b_m_Run_touch (c c2 : CF → Fn) : SDen :=
    (sSeq (sIf (dTest (dBin oNotN (dFld "world" (dVar 0)) (dC .non))) (sRet (dMeth "World" "touched" 2 (c .m_World_touched) (dFld "world" (dVar 0)) (dCons (dVar 1) dNil))) sNil)
    (sSeq (sIf (dTest (dBin oEq (dFld "place" (dVar 0)) (dFn fLen (dCons (dFld "answers" (dVar 0)) dNil)))) (sSeq (sFldD "wanted" (dVar 1) (dVar 0))
    (sRaise "Pause")) sNil)
    (sSeq (sFldD "place" (dBin oAdd (dFld "place" (dVar 0)) (dC (.int 1))) (dVar 0))
    (sRet (dBin oGet (dFld "answers" (dVar 0)) (dBin oSub (dFld "place" (dVar 0)) (dC (.int 1))))))))
def b_m_Run_worth (c c2 : CF → Fn) : SDen :=
    (sSeq (sAsg (dBin oGet (dVar 1) (dC (.int 0))) (gN 3))
    (sSeq (sIf (dTest (dBin oEq (dVar 3) (dC (.str "number")))) (sRet (dBin oGet (dVar 1) (dC (.int 1)))) sNil)
    (sSeq (sIf (dTest (dBin oEq (dVar 3) (dC (.str "name")))) (sRet (dBin oGet (dVar 2) (dBin oGet (dVar 1) (dC (.int 1))))) sNil)
    (sSeq (sIf (dTest (dBin oIn (dVar 3) (dTup (dCons (dC (.str "read")) (dCons (dC (.str "write")) dNil))))) (sRet (dMeth "Run" "at_shelf" 3 (c .m_Run_at_shelf) (dVar 0) (dCons (dVar 1) (dCons (dVar 2) dNil)))) sNil)
    (sSeq (sIf (dTest (dBin oEq (dVar 3) (dC (.str "ask")))) (sRet (dMeth "Run" "touch" 2 (c .m_Run_touch) (dVar 0) (dCons (dTup (dCons (dC (.str "ask")) dNil)) dNil))) sNil)
    (sSeq (sIf (dTest (dBin oEq (dVar 3) (dC (.str "say")))) (sRet (dMeth "Run" "touch" 2 (c .m_Run_touch) (dVar 0) (dCons (dTup (dCons (dC (.str "say")) (dCons (dMeth "Run" "worth" 3 (c .m_Run_worth) (dVar 0) (dCons (dBin oGet (dVar 1) (dC (.int 1))) (dCons (dVar 2) dNil))) dNil))) dNil))) sNil)
    (sSeq (sIf (dTest (dBin oEq (dVar 3) (dC (.str "do")))) (sSeq (sAsg (dBin oGet (dVar 2) (dBin oGet (dVar 1) (dC (.int 1)))) (gT 2 (gsCons (gN 4) (gsCons (gN 5) gsNil))))
    (sRet (dMeth "Run" "worth" 3 (c .m_Run_worth) (dVar 0) (dCons (dVar 4) (dCons (dVar 5) dNil))))) sNil)
    (sSeq (sIf (dTest (dBin oIn (dVar 3) (dTup (dCons (dC (.str "call")) (dCons (dC (.str "let")) (dCons (dC (.str "own")) dNil)))))) (sRet (dMeth "Run" "with_names" 3 (c .m_Run_with_names) (dVar 0) (dCons (dVar 1) (dCons (dVar 2) dNil)))) sNil)
    (sRet (dMeth "Run" "put_together" 3 (c .m_Run_put_together) (dVar 0) (dCons (dVar 1) (dCons (dVar 2) dNil))))))))))))
def b_m_Run_at_shelf (c c2 : CF → Fn) : SDen :=
    (sSeq (sAsg (dGet2 (dVar 2) (dBin oGet (dVar 1) (dC (.int 1))) (dBin oGet (dVar 1) (dC (.int 1)))) (gN 3))
    (sSeq (sIf (dTest (dBin oEq (dBin oGet (dVar 1) (dC (.int 0))) (dC (.str "read")))) (sRet (dIf (dTest (dIsi "str" (dVar 3))) (dMeth "Run" "touch" 2 (c .m_Run_touch) (dVar 0) (dCons (dTup (dCons (dC (.str "read")) (dCons (dVar 3) dNil))) dNil)) (dBin oGet (dFld "cells" (dVar 0)) (dVar 3)))) sNil)
    (sSeq (sAsg (dMeth "Run" "worth" 3 (c .m_Run_worth) (dVar 0) (dCons (dBin oGet (dVar 1) (dC (.int 2))) (dCons (dVar 2) dNil))) (gN 4))
    (sSeq (sIf (dTest (dIsi "str" (dVar 3))) (sRet (dMeth "Run" "touch" 2 (c .m_Run_touch) (dVar 0) (dCons (dTup (dCons (dC (.str "write")) (dCons (dVar 3) (dCons (dVar 4) dNil)))) dNil))) sNil)
    (sSeq (sPut (dFld "cells" (dVar 0)) (dVar 3) (dVar 4))
    (sRet (dVar 4)))))))
def b_m_Run_with_names (c c2 : CF → Fn) : SDen :=
    (sSeq (sIf (dTest (dBin oEq (dBin oGet (dVar 1) (dC (.int 0))) (dC (.str "call")))) (sSeq (sAsg (dBin oGet (dFld "rules" (dVar 0)) (dBin oGet (dVar 1) (dC (.int 1)))) (gT 3 (gsCons (gN 3) (gsCons (gN 4) (gsCons (gN 5) gsNil)))))
    (sSeq (sAsg (dFn fDict (dCons (dLcX (iZipD (dVar 3) (dBin oGet (dVar 1) (dC (.int 2)))) (gT 2 (gsCons (gN 8) (gsCons (gN 9) gsNil))) (dTup (dCons (dVar 8) (dCons (dMeth "Run" "worth" 3 (c .m_Run_worth) (dVar 0) (dCons (dVar 9) (dCons (dVar 2) dNil))) dNil))) [8, 9]) dNil)) (gN 6))
    (sSeq (sExpr (dUpd (dVar 6) (dFn fDict (dCons (dLc (iZipD (dVar 4) (dBin oGet (dVar 1) (dC (.int 3)))) (gT 2 (gsCons (gN 8) (gsCons (gN 9) gsNil))) bYes (dTup (dCons (dVar 8) (dCons (dTup (dCons (dVar 9) (dCons (dVar 2) dNil))) dNil))) [8, 9]) dNil))))
    (sRet (dMeth "Run" "worth" 3 (c .m_Run_worth) (dVar 0) (dCons (dVar 5) (dCons (dVar 6) dNil))))))) sNil)
    (sSeq (sAsg (dMeth "Run" "worth" 3 (c .m_Run_worth) (dVar 0) (dCons (dBin oGet (dVar 1) (dC (.int 2))) (dCons (dVar 2) dNil))) (gN 7))
    (sSeq (sAsg (dFn fDict (dCons (dVar 2) dNil)) (gN 6))
    (sSeq (sPut (dVar 6) (dBin oGet (dVar 1) (dC (.int 1))) (dVar 7))
    (sSeq (sIf (dTest (dBin oEq (dBin oGet (dVar 1) (dC (.int 0))) (dC (.str "own")))) (sSeq (sExpr (dAppend (dFld "cells" (dVar 0)) (dVar 7)))
    (sPut (dVar 6) (dBin oGet (dVar 1) (dC (.int 1))) (dBin oSub (dFn fLen (dCons (dFld "cells" (dVar 0)) dNil)) (dC (.int 1))))) sNil)
    (sRet (dMeth "Run" "worth" 3 (c .m_Run_worth) (dVar 0) (dCons (dBin oGet (dVar 1) (dC (.int 3))) (dCons (dVar 6) dNil)))))))))
def b_m_Run_put_together (c c2 : CF → Fn) : SDen :=
    (sSeq (sAsg (dBin oGet (dVar 1) (dC (.int 0))) (gN 3))
    (sSeq (sAsg (dMeth "Run" "worth" 3 (c .m_Run_worth) (dVar 0) (dCons (dBin oGet (dVar 1) (dC (.int 1))) (dCons (dVar 2) dNil))) (gN 4))
    (sSeq (sIf (dTest (dBin oEq (dVar 3) (dC (.str "if")))) (sRet (dMeth "Run" "worth" 3 (c .m_Run_worth) (dVar 0) (dCons (dIf (dTest (dBin oNe (dVar 4) (dC (.int 0)))) (dBin oGet (dVar 1) (dC (.int 2))) (dBin oGet (dVar 1) (dC (.int 3)))) (dCons (dVar 2) dNil)))) sNil)
    (sSeq (sIf (dTest (dBin oEq (dVar 3) (dC (.str "loop")))) (sSeq (sFor (iRange1 (dBin oMod (dVar 4) (dC (.int 4)))) (gN 5) (sExpr (dMeth "Run" "worth" 3 (c .m_Run_worth) (dVar 0) (dCons (dBin oGet (dVar 1) (dC (.int 2))) (dCons (dVar 2) dNil)))))
    (sRet (dC (.int 0)))) sNil)
    (sSeq (sAsg (dMeth "Run" "worth" 3 (c .m_Run_worth) (dVar 0) (dCons (dBin oGet (dVar 1) (dC (.int 2))) (dCons (dVar 2) dNil))) (gN 6))
    (sSeq (sIf (dTest (dBin oEq (dVar 3) (dC (.str "then")))) (sRet (dVar 6)) sNil)
    (sRet (dIf (dTest (dBin oEq (dVar 3) (dC (.str "add")))) (dBin oMod (dBin oAdd (dVar 4) (dVar 6)) (dC (.int 1009))) (dFn fInt (dCons (dBin oLt (dVar 4) (dVar 6)) dNil))))))))))
def b_m_World_touched (c c2 : CF → Fn) : SDen :=
    (sSeq (sIf (dTest (dBin oEq (dBin oGet (dVar 1) (dC (.int 0))) (dC (.str "ask")))) (sSeq (sAsg (dIf (dTest (dBin oLt (dFld "many" (dVar 0)) (dFn fLen (dCons (dFld "asked" (dVar 0)) dNil)))) (dBin oGet (dFld "asked" (dVar 0)) (dFld "many" (dVar 0))) (dC (.int 0))) (gN 2))
    (sFldD "many" (dBin oAdd (dFld "many" (dVar 0)) (dC (.int 1))) (dVar 0))) (sIf (dTest (dBin oEq (dBin oGet (dVar 1) (dC (.int 0))) (dC (.str "read")))) (sAsg (dBin oGet (dFld "kept" (dVar 0)) (dBin oGet (dVar 1) (dC (.int 1)))) (gN 2)) (sAsg (dBin oGet (dVar 1) (dNeg (dC (.int 1)))) (gN 2))))
    (sSeq (sIf (dTest (dBin oEq (dBin oGet (dVar 1) (dC (.int 0))) (dC (.str "write")))) (sPut (dFld "kept" (dVar 0)) (dBin oGet (dVar 1) (dC (.int 1))) (dVar 2)) sNil)
    (sSeq (sIf (dTest (dBin oEq (dBin oGet (dVar 1) (dC (.int 0))) (dC (.str "say")))) (sExpr (dAppend (dFld "spoken" (dVar 0)) (dVar 2))) sNil)
    (sSeq (sExpr (dAppend (dFld "marks" (dVar 0)) (dIf (dTest (dBin oIn (dBin oGet (dVar 1) (dC (.int 0))) (dTup (dCons (dC (.str "write")) (dCons (dC (.str "say")) dNil))))) (dVar 1) (dBin oAdd (dVar 1) (dTup (dCons (dVar 2) dNil))))))
    (sRet (dVar 2))))))
def b_f__law_touch (c c2 : CF → Fn) : SDen :=
    (sSeq (sIf (dTest (dBin oEq (dBin oGet (dVar 0) (dC (.str "place"))) (dFn fLen (dCons (dBin oGet (dVar 0) (dC (.str "answers"))) dNil)))) (sSeq (sPut (dVar 0) (dC (.str "wanted")) (dVar 1))
    (sRet (dC .non))) sNil)
    (sSeq (sPut (dVar 0) (dC (.str "place")) (dBin oAdd (dBin oGet (dVar 0) (dC (.str "place"))) (dC (.int 1))))
    (sRet (dBin oGet (dBin oGet (dVar 0) (dC (.str "answers"))) (dBin oSub (dBin oGet (dVar 0) (dC (.str "place"))) (dC (.int 1)))))))
def b_f__law_worth (c c2 : CF → Fn) : SDen :=
    (sSeq (sAsg (dBin oGet (dVar 1) (dC (.int 0))) (gN 4))
    (sSeq (sIf (dTest (dBin oEq (dVar 4) (dC (.str "number")))) (sRet (dBin oGet (dVar 1) (dC (.int 1)))) sNil)
    (sSeq (sIf (dTest (dBin oEq (dVar 4) (dC (.str "name")))) (sRet (dBin oGet (dVar 2) (dBin oGet (dVar 1) (dC (.int 1))))) sNil)
    (sSeq (sIf (dTest (dBin oEq (dVar 4) (dC (.str "ask")))) (sRet (dCall 2 (c .f__law_touch) (dCons (dVar 3) (dCons (dTup (dCons (dC (.str "ask")) dNil)) dNil)))) sNil)
    (sSeq (sIf (dTest (dBin oEq (dVar 4) (dC (.str "do")))) (sRet (dCall 4 (c .f__law_worth) (dCons (dVar 0) (dCons (dBin oGet (dBin oGet (dVar 2) (dBin oGet (dVar 1) (dC (.int 1)))) (dC (.int 0))) (dCons (dBin oGet (dBin oGet (dVar 2) (dBin oGet (dVar 1) (dC (.int 1)))) (dC (.int 1))) (dCons (dVar 3) dNil)))))) sNil)
    (sSeq (sIf (dTest (dBin oEq (dVar 4) (dC (.str "read")))) (sSeq (sAsg (dGet2 (dVar 2) (dBin oGet (dVar 1) (dC (.int 1))) (dBin oGet (dVar 1) (dC (.int 1)))) (gN 5))
    (sSeq (sIf (dTest (dIsi "int" (dVar 5))) (sRet (dBin oGet (dBin oGet (dVar 3) (dC (.str "cells"))) (dVar 5))) sNil)
    (sRet (dCall 2 (c .f__law_touch) (dCons (dVar 3) (dCons (dTup (dCons (dC (.str "read")) (dCons (dVar 5) dNil))) dNil)))))) sNil)
    (sSeq (sIf (dTest (dBin oEq (dVar 4) (dC (.str "call")))) (sRet (dCall 4 (c .f__law_called) (dCons (dVar 0) (dCons (dVar 1) (dCons (dVar 2) (dCons (dVar 3) dNil)))))) sNil)
    (sSeq (sAsg (dCall 4 (c .f__law_worth) (dCons (dVar 0) (dCons (dBin oGet (dVar 1) (dBin oAdd (dC (.int 1)) (dFn fInt (dCons (dBin oIn (dVar 4) (dTup (dCons (dC (.str "write")) (dCons (dC (.str "let")) (dCons (dC (.str "own")) dNil))))) dNil)))) (dCons (dVar 2) (dCons (dVar 3) dNil))))) (gN 6))
    (sSeq (sIf (dTest (dBin oIsN (dVar 6) (dC .non))) (sRet (dC .non)) sNil)
    (sRet (dCall 5 (c .f__law_behind) (dCons (dVar 0) (dCons (dVar 1) (dCons (dVar 2) (dCons (dVar 3) (dCons (dVar 6) dNil))))))))))))))))
def b_f__law_called (c c2 : CF → Fn) : SDen :=
    (sSeq (sAsg dNewK (gN 4))
    (sSeq (sFor (iZipD (dBin oGet (dBin oGet (dVar 0) (dBin oGet (dVar 1) (dC (.int 1)))) (dC (.int 0))) (dBin oGet (dVar 1) (dC (.int 2)))) (gT 2 (gsCons (gN 5) (gsCons (gN 6) gsNil))) (sSeq (sAsg (dCall 4 (c .f__law_worth) (dCons (dVar 0) (dCons (dVar 6) (dCons (dVar 2) (dCons (dVar 3) dNil))))) (gN 7))
    (sSeq (sIf (dTest (dBin oIsN (dVar 7) (dC .non))) (sRet (dC .non)) sNil)
    (sPut (dVar 4) (dVar 5) (dVar 7)))))
    (sSeq (sFor (iZipD (dBin oGet (dBin oGet (dVar 0) (dBin oGet (dVar 1) (dC (.int 1)))) (dC (.int 1))) (dBin oGet (dVar 1) (dC (.int 3)))) (gT 2 (gsCons (gN 5) (gsCons (gN 6) gsNil))) (sPut (dVar 4) (dVar 5) (dTup (dCons (dVar 6) (dCons (dVar 2) dNil)))))
    (sRet (dCall 4 (c .f__law_worth) (dCons (dVar 0) (dCons (dBin oGet (dBin oGet (dVar 0) (dBin oGet (dVar 1) (dC (.int 1)))) (dC (.int 2))) (dCons (dVar 4) (dCons (dVar 3) dNil)))))))))
def b_f__law_behind (c c2 : CF → Fn) : SDen :=
    (sSeq (sAsg (dBin oGet (dVar 1) (dC (.int 0))) (gN 5))
    (sSeq (sIf (dTest (dBin oEq (dVar 5) (dC (.str "say")))) (sRet (dCall 2 (c .f__law_touch) (dCons (dVar 3) (dCons (dTup (dCons (dC (.str "say")) (dCons (dVar 4) dNil))) dNil)))) sNil)
    (sSeq (sIf (dTest (dBin oEq (dVar 5) (dC (.str "write")))) (sSeq (sAsg (dGet2 (dVar 2) (dBin oGet (dVar 1) (dC (.int 1))) (dBin oGet (dVar 1) (dC (.int 1)))) (gN 6))
    (sSeq (sIf (dTest (dIsi "str" (dVar 6))) (sRet (dCall 2 (c .f__law_touch) (dCons (dVar 3) (dCons (dTup (dCons (dC (.str "write")) (dCons (dVar 6) (dCons (dVar 4) dNil)))) dNil)))) sNil)
    (sSeq (sPut (dBin oGet (dVar 3) (dC (.str "cells"))) (dVar 6) (dVar 4))
    (sRet (dVar 4))))) sNil)
    (sSeq (sIf (dTest (dBin oIn (dVar 5) (dTup (dCons (dC (.str "let")) (dCons (dC (.str "own")) dNil))))) (sSeq (sAsg (dFn fDict (dCons (dVar 2) dNil)) (gN 7))
    (sSeq (sPut (dVar 7) (dBin oGet (dVar 1) (dC (.int 1))) (dVar 4))
    (sSeq (sIf (dTest (dBin oEq (dVar 5) (dC (.str "own")))) (sSeq (sPut (dVar 7) (dBin oGet (dVar 1) (dC (.int 1))) (dFn fLen (dCons (dBin oGet (dVar 3) (dC (.str "cells"))) dNil)))
    (sExpr (dAppend (dBin oGet (dVar 3) (dC (.str "cells"))) (dVar 4)))) sNil)
    (sRet (dCall 4 (c .f__law_worth) (dCons (dVar 0) (dCons (dBin oGet (dVar 1) (dC (.int 3))) (dCons (dVar 7) (dCons (dVar 3) dNil))))))))) sNil)
    (sSeq (sIf (dTest (dBin oEq (dVar 5) (dC (.str "if")))) (sRet (dCall 4 (c .f__law_worth) (dCons (dVar 0) (dCons (dBin oGet (dVar 1) (dBin oAdd (dC (.int 2)) (dFn fInt (dCons (dBin oEq (dVar 4) (dC (.int 0))) dNil)))) (dCons (dVar 2) (dCons (dVar 3) dNil)))))) sNil)
    (sSeq (sIf (dTest (dBin oEq (dVar 5) (dC (.str "loop")))) (sSeq (sFor (iRange1 (dBin oMod (dVar 4) (dC (.int 4)))) (gN 8) (sIf (dTest (dBin oIsN (dCall 4 (c .f__law_worth) (dCons (dVar 0) (dCons (dBin oGet (dVar 1) (dC (.int 2))) (dCons (dVar 2) (dCons (dVar 3) dNil))))) (dC .non))) (sRet (dC .non)) sNil))
    (sRet (dC (.int 0)))) sNil)
    (sSeq (sAsg (dCall 4 (c .f__law_worth) (dCons (dVar 0) (dCons (dBin oGet (dVar 1) (dC (.int 2))) (dCons (dVar 2) (dCons (dVar 3) dNil))))) (gN 9))
    (sSeq (sIf (bOr (dTest (dBin oIsN (dVar 9) (dC .non))) (dTest (dBin oEq (dVar 5) (dC (.str "then"))))) (sRet (dVar 9)) sNil)
    (sRet (dBin oGet (dLst (dCons (dBin oMod (dBin oAdd (dVar 4) (dVar 9)) (dC (.int 1009))) (dCons (dFn fInt (dCons (dBin oLt (dVar 4) (dVar 9)) dNil)) dNil))) (dFn fInt (dCons (dBin oEq (dVar 5) (dC (.str "less"))) dNil))))))))))))
def b_f_words_for (c c2 : CF → Fn) : SDen :=
    (sSeq (sIf (dTest (dBin oEq (dBin oGet (dVar 0) (dC (.int 0))) (dC (.str "call")))) (sSeq (sAsg (dLst (dCons (dC (.str "(")) (dCons (dC (.str "call")) (dCons (dFn fStrX (dCons (dBin oGet (dVar 0) (dC (.int 1))) dNil)) (dCons (dC (.str "[")) dNil))))) (gN 1))
    (sSeq (sFor (iAny (dBin oGet (dVar 0) (dC (.int 2)))) (gN 2) (sAsg (dBin oAdd (dVar 1) (dCall 1 (c .f_words_for) (dCons (dVar 2) dNil))) (gN 1)))
    (sSeq (sAsg (dBin oAdd (dVar 1) (dLst (dCons (dC (.str "]")) (dCons (dC (.str "[")) dNil)))) (gN 1))
    (sSeq (sFor (iAny (dBin oGet (dVar 0) (dC (.int 3)))) (gN 2) (sAsg (dBin oAdd (dVar 1) (dCall 1 (c .f_words_for) (dCons (dVar 2) dNil))) (gN 1)))
    (sRet (dBin oAdd (dVar 1) (dLst (dCons (dC (.str "]")) (dCons (dC (.str ")")) dNil))))))))) sNil)
    (sSeq (sAsg (dLst (dCons (dC (.str "(")) (dCons (dBin oGet (dVar 0) (dC (.int 0))) dNil))) (gN 1))
    (sSeq (sFor (iAny (dSl (dVar 0) (dPart (dC (.int 1))) dNoPart)) (gN 2) (sAsg (dBin oAdd (dVar 1) (dIf (dTest (dIsi "tuple" (dVar 2))) (dCall 1 (c .f_words_for) (dCons (dVar 2) dNil)) (dLst (dCons (dFn fStrX (dCons (dVar 2) dNil)) dNil)))) (gN 1)))
    (sRet (dBin oAdd (dVar 1) (dLst (dCons (dC (.str ")")) dNil)))))))
def b_f_written (c c2 : CF → Fn) : SDen :=
    (sRet (dJoin (dC (.str " ")) (dCall 1 (c .f_words_for) (dCons (dVar 0) dNil))))
def b_m_Words_init (c c2 : CF → Fn) : SDen :=
    (sFldD "left" (dRev (dVar 1)) (dVar 0))
def b_m_Words_next_word (c c2 : CF → Fn) : SDen :=
    (sSeq (sIf (dTest (dBin oEq (dFld "left" (dVar 0)) (dLst dNil))) (sRaise "NoText") sNil)
    (sRet (dPop (dFld "left" (dVar 0)))))
def b_m_Words_thing (c c2 : CF → Fn) : SDen :=
    (sSeq (sIf (bAnd (dTest (dBin oEq (dVar 1) (dC (.str "(")))) (dTest (dBin oGt (dVar 2) (dC (.int 0))))) (sRet (dMeth "Words" "row" 3 (c .m_Words_row) (dVar 0) (dCons (dC (.str ")")) (dCons (dBin oSub (dVar 2) (dC (.int 1))) dNil)))) sNil)
    (sSeq (sIf (bAnd (dTest (dBin oEq (dVar 1) (dC (.str "[")))) (dTest (dBin oGt (dVar 2) (dC (.int 0))))) (sRet (dMeth "Words" "row" 3 (c .m_Words_row) (dVar 0) (dCons (dC (.str "]")) (dCons (dBin oSub (dVar 2) (dC (.int 1))) dNil)))) sNil)
    (sSeq (sIf (bAnd (dTest (dBin oNe (dVar 1) (dC (.str "")))) (bAnd (dTest (dBin oLe (dFn fLen (dCons (dVar 1) dNil)) (dC (.int 4)))) (dTest (dFn fAll (dCons (dLc (iAny (dVar 1)) (gN 3) bYes (dBin oIn (dVar 3) (dC (.str "0123456789"))) [3]) dNil))))) (sRet (dFn fIntS (dCons (dVar 1) dNil))) sNil)
    (sRet (dVar 1)))))
def b_m_Words_row (c c2 : CF → Fn) : SDen :=
    (sSeq (sAsg (dTup dNil) (gN 3))
    (sSeq (sAsg (dMeth "Words" "next_word" 1 (c .m_Words_next_word) (dVar 0) dNil) (gN 4))
    (sSeq (whl (dTest (dBin oNe (dVar 4) (dVar 1))) (sSeq (sAsg (dBin oAdd (dVar 3) (dTup (dCons (dMeth "Words" "thing" 3 (c .m_Words_thing) (dVar 0) (dCons (dVar 4) (dCons (dVar 2) dNil))) dNil))) (gN 3))
    (sAsg (dMeth "Words" "next_word" 1 (c .m_Words_next_word) (dVar 0) dNil) (gN 4))) 1000000)
    (sRet (dVar 3)))))
def b_f_read (c c2 : CF → Fn) : SDen :=
    (sSeq (sAsg (dMake "Words" 2 (c2 .m_Words_init) (dCons (dSplit (dVar 1) (dC (.str " "))) dNil)) (gN 2))
    (sSeq (sAsg (dMeth "Words" "thing" 3 (c .m_Words_thing) (dVar 2) (dCons (dMeth "Words" "next_word" 1 (c .m_Words_next_word) (dVar 2) dNil) (dCons (dBin oMul (dC (.int 2)) (dC (.int 60))) dNil))) (gN 3))
    (sSeq (sIf (bOr (dTest (dBin oNe (dFld "left" (dVar 2)) (dLst dNil))) (bOr (bNot (dTest (dCall 2 (c .f_is_deed) (dCons (dVar 0) (dCons (dVar 3) dNil))))) (dTest (dBin oNe (dCall 1 (c .f_written) (dCons (dVar 3) dNil)) (dVar 1))))) (sRaise "NoText") sNil)
    (sRet (dVar 3)))))
def cbody (c c2 : CF → Fn) : CF → Fn
  | .f_is_number => runFn 1 1 (b_f_is_number c c2)
  | .f_is_word => runFn 2 3 (b_f_is_word c c2)
  | .f_is_shelf => runFn 2 2 (b_f_is_shelf c c2)
  | .m_Reader_init => runFn 3 3 (b_m_Reader_init c c2)
  | .m_Reader_is_deed => runFn 3 6 (b_m_Reader_is_deed c c2)
  | .m_Reader_is_call => runFn 3 7 (b_m_Reader_is_call c c2)
  | .f_is_leaf => runFn 2 2 (b_f_is_leaf c c2)
  | .f_is_deed => runFn 2 2 (b_f_is_deed c c2)
  | .f__law_cell => runFn 2 2 (b_f__law_cell c c2)
  | .f__law_drawn => runFn 3 4 (b_f__law_drawn c c2)
  | .f__law_leaf => runFn 3 8 (b_f__law_leaf c c2)
  | .f__law_deed => runFn 5 11 (b_f__law_deed c c2)
  | .f__law_call => runFn 5 9 (b_f__law_call c c2)
  | .f__law_rules => runFn 2 7 (b_f__law_rules c c2)
  | .f__law_weight => runFn 3 9 (b_f__law_weight c c2)
  | .f__law_light => runFn 4 5 (b_f__law_light c c2)
  | .m_Run_touch => runFn 2 2 (b_m_Run_touch c c2)
  | .m_Run_worth => runFn 3 6 (b_m_Run_worth c c2)
  | .m_Run_at_shelf => runFn 3 5 (b_m_Run_at_shelf c c2)
  | .m_Run_with_names => runFn 3 10 (b_m_Run_with_names c c2)
  | .m_Run_put_together => runFn 3 7 (b_m_Run_put_together c c2)
  | .m_World_touched => runFn 2 3 (b_m_World_touched c c2)
  | .f__law_touch => runFn 2 2 (b_f__law_touch c c2)
  | .f__law_worth => runFn 4 7 (b_f__law_worth c c2)
  | .f__law_called => runFn 4 8 (b_f__law_called c c2)
  | .f__law_behind => runFn 5 10 (b_f__law_behind c c2)
  | .f_words_for => runFn 1 3 (b_f_words_for c c2)
  | .f_written => runFn 1 1 (b_f_written c c2)
  | .m_Words_init => runFn 2 2 (b_m_Words_init c c2)
  | .m_Words_next_word => runFn 1 1 (b_m_Words_next_word c c2)
  | .m_Words_thing => runFn 3 4 (b_m_Words_thing c c2)
  | .m_Words_row => runFn 3 5 (b_m_Words_row c c2)
  | .f_read => runFn 2 4 (b_f_read c c2)
def csem : Nat → CF → Fn
  | 0 => fun _ _ _ => .bad
  | 1 => fun _ _ _ => .bad
  | n + 2 => cbody (csem (n + 1)) (csem n)
theorem cs_f_is_number (n : Nat) : csem (n + 2) .f_is_number = runFn 1 1 (b_f_is_number (csem (n + 1)) (csem n)) := rfl
theorem cs_f_is_word (n : Nat) : csem (n + 2) .f_is_word = runFn 2 3 (b_f_is_word (csem (n + 1)) (csem n)) := rfl
theorem cs_f_is_shelf (n : Nat) : csem (n + 2) .f_is_shelf = runFn 2 2 (b_f_is_shelf (csem (n + 1)) (csem n)) := rfl
theorem cs_m_Reader_init (n : Nat) : csem (n + 2) .m_Reader_init = runFn 3 3 (b_m_Reader_init (csem (n + 1)) (csem n)) := rfl
theorem cs_m_Reader_is_deed (n : Nat) : csem (n + 2) .m_Reader_is_deed = runFn 3 6 (b_m_Reader_is_deed (csem (n + 1)) (csem n)) := rfl
theorem cs_m_Reader_is_call (n : Nat) : csem (n + 2) .m_Reader_is_call = runFn 3 7 (b_m_Reader_is_call (csem (n + 1)) (csem n)) := rfl
theorem cs_f_is_leaf (n : Nat) : csem (n + 2) .f_is_leaf = runFn 2 2 (b_f_is_leaf (csem (n + 1)) (csem n)) := rfl
theorem cs_f_is_deed (n : Nat) : csem (n + 2) .f_is_deed = runFn 2 2 (b_f_is_deed (csem (n + 1)) (csem n)) := rfl
theorem cs_f__law_cell (n : Nat) : csem (n + 2) .f__law_cell = runFn 2 2 (b_f__law_cell (csem (n + 1)) (csem n)) := rfl
theorem cs_f__law_drawn (n : Nat) : csem (n + 2) .f__law_drawn = runFn 3 4 (b_f__law_drawn (csem (n + 1)) (csem n)) := rfl
theorem cs_f__law_leaf (n : Nat) : csem (n + 2) .f__law_leaf = runFn 3 8 (b_f__law_leaf (csem (n + 1)) (csem n)) := rfl
theorem cs_f__law_deed (n : Nat) : csem (n + 2) .f__law_deed = runFn 5 11 (b_f__law_deed (csem (n + 1)) (csem n)) := rfl
theorem cs_f__law_call (n : Nat) : csem (n + 2) .f__law_call = runFn 5 9 (b_f__law_call (csem (n + 1)) (csem n)) := rfl
theorem cs_f__law_rules (n : Nat) : csem (n + 2) .f__law_rules = runFn 2 7 (b_f__law_rules (csem (n + 1)) (csem n)) := rfl
theorem cs_f__law_weight (n : Nat) : csem (n + 2) .f__law_weight = runFn 3 9 (b_f__law_weight (csem (n + 1)) (csem n)) := rfl
theorem cs_f__law_light (n : Nat) : csem (n + 2) .f__law_light = runFn 4 5 (b_f__law_light (csem (n + 1)) (csem n)) := rfl
theorem cs_m_Run_touch (n : Nat) : csem (n + 2) .m_Run_touch = runFn 2 2 (b_m_Run_touch (csem (n + 1)) (csem n)) := rfl
theorem cs_m_Run_worth (n : Nat) : csem (n + 2) .m_Run_worth = runFn 3 6 (b_m_Run_worth (csem (n + 1)) (csem n)) := rfl
theorem cs_m_Run_at_shelf (n : Nat) : csem (n + 2) .m_Run_at_shelf = runFn 3 5 (b_m_Run_at_shelf (csem (n + 1)) (csem n)) := rfl
theorem cs_m_Run_with_names (n : Nat) : csem (n + 2) .m_Run_with_names = runFn 3 10 (b_m_Run_with_names (csem (n + 1)) (csem n)) := rfl
theorem cs_m_Run_put_together (n : Nat) : csem (n + 2) .m_Run_put_together = runFn 3 7 (b_m_Run_put_together (csem (n + 1)) (csem n)) := rfl
theorem cs_m_World_touched (n : Nat) : csem (n + 2) .m_World_touched = runFn 2 3 (b_m_World_touched (csem (n + 1)) (csem n)) := rfl
theorem cs_f_words_for (n : Nat) : csem (n + 2) .f_words_for = runFn 1 3 (b_f_words_for (csem (n + 1)) (csem n)) := rfl
theorem cs_f_written (n : Nat) : csem (n + 2) .f_written = runFn 1 1 (b_f_written (csem (n + 1)) (csem n)) := rfl
theorem cs_m_Words_init (n : Nat) : csem (n + 2) .m_Words_init = runFn 2 2 (b_m_Words_init (csem (n + 1)) (csem n)) := rfl
theorem cs_m_Words_next_word (n : Nat) : csem (n + 2) .m_Words_next_word = runFn 1 1 (b_m_Words_next_word (csem (n + 1)) (csem n)) := rfl
theorem cs_m_Words_thing (n : Nat) : csem (n + 2) .m_Words_thing = runFn 3 4 (b_m_Words_thing (csem (n + 1)) (csem n)) := rfl
theorem cs_m_Words_row (n : Nat) : csem (n + 2) .m_Words_row = runFn 3 5 (b_m_Words_row (csem (n + 1)) (csem n)) := rfl
theorem cs_f_read (n : Nat) : csem (n + 2) .f_read = runFn 2 4 (b_f_read (csem (n + 1)) (csem n)) := rfl
end DL
namespace DL
open PySem L2
def fin : R Fl → R D
  | .ok (.nx _) S' => .ok .non S'
  | .ok (.rt d) S' => .ok d S'
  | .ok (.ex c _) S' => .exc c S'
  | _ => .bad
theorem runFn_fin {np nN : Nat} {b : SDen} {ds : List D} {S : Sto} (h : ds.length = np) : runFn np nN b ds S = fin (b (ds.map some ++ List.replicate (nN - np) none) S) := by
  unfold runFn
  rw [if_pos h]
  cases b (ds.map some ++ List.replicate (nN - np) none) S with
  | ok f S' => cases f <;> rfl
  | _ => rfl
theorem items_tup {S : Sto} {ds : List D} : items S (.tup ds) = some ds := rfl
section
variable {o o' : Op} {a b c : Den} {ba bb : DenB} {r : DenA} {p q : DenO} {ε : Env} {S : Sto} {d e : D} {i : Nat} {u v : SDen} {g : GDen} {gs : GDens} {ds : List D} {f : Fn} {n : Nat} {F : Fn} {m x : Str}
@[simp] theorem x_C : dC d ε S = .ok d S := rfl
@[simp] theorem x_Var {d : D} (h : ε[i]? = some (some d)) : dVar i ε S = .ok d S := by unfold dVar; rw [h]
@[simp] theorem x_Nil : dNil ε S = .ok [] S := rfl
@[simp] theorem x_Cons : dCons a r ε S = (a ε S).bind fun d S => (r ε S).bind fun ds S => .ok (d :: ds) S := rfl
@[simp] theorem x_Tup : dTup r ε S = (r ε S).bind mkTup := rfl
@[simp] theorem x_Lst : dLst r ε S = (r ε S).bind mkLst := rfl
@[simp] theorem x_Bin : dBin o a b ε S = (a ε S).bind fun d S => (b ε S).bind fun e S => o d e S := rfl
@[simp] theorem x_bind {α β : Type} {a : α} {k : α → Sto → R β} : (R.ok a S).bind k = k a S := rfl
@[simp] theorem x_bindB {α β : Type} {k : α → Sto → R β} : (R.bad : R α).bind k = .bad := rfl
@[simp] theorem x_bindX {α β : Type} {k : α → Sto → R β} : (R.exc x S : R α).bind k = .exc x S := rfl
@[simp] theorem x_Test {t : Bool} (h : a ε S = .ok (.bl t) S) : dTest a ε S = .ok t S := by unfold dTest; rw [h]; rfl
@[simp] theorem x_And : bAnd ba bb ε S = (ba ε S).bind fun c S => if c = true then bb ε S else .ok false S := rfl
@[simp] theorem x_Or : bOr ba bb ε S = (ba ε S).bind fun c S => if c = true then .ok true S else bb ε S := rfl
@[simp] theorem x_Not : bNot ba ε S = (ba ε S).bind fun c S => .ok (!c) S := rfl
@[simp] theorem x_If : dIf ba a b ε S = (ba ε S).bind fun k S => if k = true then a ε S else b ε S := rfl
@[simp] theorem x_Fn : dFn f r ε S = (r ε S).bind fun ds S => f ds S := rfl
@[simp] theorem x_Call : dCall n F r ε S = (r ε S).bind fun ds S => if ds.length = n then F ds S else .bad := rfl
@[simp] theorem x_NoPart : dNoPart ε S = .ok none S := rfl
@[simp] theorem x_Sl : dSl a p q ε S = (a ε S).bind fun d S => (p ε S).bind fun l S => (q ε S).bind fun u S => oSl d l u S := rfl
@[simp] theorem x_sNil : sNil ε S = .ok (.nx ε) S := rfl
@[simp] theorem x_Seq : sSeq u v ε S = sN (u ε S) v := rfl
@[simp] theorem x_Ret : sRet a ε S = sE (a ε S) ε fun d S => .ok (.rt d) S := rfl
@[simp] theorem x_Expr : sExpr a ε S = sE (a ε S) ε fun _ S => .ok (.nx ε) S := rfl
@[simp] theorem x_sIf : sIf ba u v ε S = sE (ba ε S) ε fun k S => if k = true then u ε S else v ε S := rfl
@[simp] theorem x_Asg : sAsg a g ε S = sE (a ε S) ε fun d S => match g d ε S with
  | some ε' => .ok (.nx ε') S
  | none => .bad := rfl
@[simp] theorem x_gN : gN i d ε S = some (ε.set i (some d)) := rfl
@[simp] theorem x_gsNil : gsNil [] ε S = some ε := rfl
@[simp] theorem x_gsCons : gsCons g gs (d :: ds) ε S = (g d ε S).bind fun ε => gs ds ε S := rfl
@[simp] theorem x_sE {α : Type} {a : α} {k : α → Sto → R Fl} : sE (R.ok a S) ε k = k a S := rfl
@[simp] theorem x_sN {k : Env → Sto → R Fl} : sN (.ok (.nx ε) S) k = k ε S := rfl
@[simp] theorem x_sNr {k : Env → Sto → R Fl} : sN (.ok (.rt d) S) k = .ok (.rt d) S := rfl
@[simp] theorem x_run {np nN : Nat} {b : SDen} (h : ds.length = np) : runFn np nN b ds S = fin (b (ds.map some ++ List.replicate (nN - np) none) S) := runFn_fin h
@[simp] theorem x_fin : fin (.ok (.rt d) S) = .ok d S := rfl
@[simp] theorem x_finN : fin (.ok (.nx ε) S) = .ok .non S := rfl
@[simp] theorem x_addI {i j : Int} : oAdd (.int i) (.int j) S = .ok (.int (i + j)) S := rfl
@[simp] theorem x_subI {i j : Int} : oSub (.int i) (.int j) S = .ok (.int (i - j)) S := rfl
@[simp] theorem x_modI {i j : Int} : oMod (.int i) (.int j) S = if 0 < j then .ok (.int (i % j)) S else .bad := rfl
@[simp] theorem x_divI {i j : Int} : oDiv (.int i) (.int j) S = if 0 < j ∧ j < 1073741824 then .ok (.int (i / j)) S else .bad := rfl
@[simp] theorem x_mulI {i j : Int} : oMul (.int i) (.int j) S = if (-(2 ^ 64) < i ∧ i < 2 ^ 64) ∨ (-(2 ^ 64) < j ∧ j < 2 ^ 64) then .ok (.int (i * j)) S else .bad := rfl
@[simp] theorem x_eqI {i j : Int} : oEq (.int i) (.int j) S = .ok (.bl (decide (i = j))) S := rfl
@[simp] theorem x_eqS {i j : Str} : oEq (.str i) (.str j) S = .ok (.bl (decide (i = j))) S := rfl
@[simp] theorem x_neI {i j : Int} : oNe (.int i) (.int j) S = .ok (.bl (!decide (i = j))) S := rfl
@[simp] theorem x_ltI {i j : Int} : oLt (.int i) (.int j) S = .ok (.bl (decide (i < j))) S := rfl
@[simp] theorem x_leI {i j : Int} : oLe (.int i) (.int j) S = .ok (.bl (decide (i ≤ j))) S := rfl
@[simp] theorem x_gtI {i j : Int} : oGt (.int i) (.int j) S = .ok (.bl (decide (j < i))) S := rfl
@[simp] theorem x_geI {i j : Int} : oGe (.int i) (.int j) S = .ok (.bl (decide (j ≤ i))) S := rfl
@[simp] theorem x_mkTup (h : ds.length ≤ 1000) : mkTup ds S = .ok (.tup ds) S := by unfold mkTup; rw [if_pos (show ds.length ≤ big from Nat.le_trans h (by decide))]
@[simp] theorem x_mkLst (h : ds.length ≤ 1000) : mkLst ds S = .ok (.ref S.length) (S ++ [.lst ds]) := by unfold mkLst; rw [if_pos (show ds.length ≤ big from Nat.le_trans h (by decide))]
@[simp] theorem x_lenT : fLen [.tup ds] S = .ok (.int ds.length) S := rfl
@[simp] theorem x_lenS : fLen [.seq ds] S = .ok (.int ds.length) S := rfl
end
theorem x_get {S : Sto} {d : D} {i : Int} {ds : List D} {e : D} (hd : dctAt S d = none) (h : items S d = some ds) (he : atI ds i = some e) : oGet d (.int i) S = .ok e S := by
  unfold oGet
  rw [hd]
  unfold oIx
  cases d <;> simp_all [items]
@[simp] theorem x_getT {S : Sto} {i : Int} {ds : List D} : oGet (.tup ds) (.int i) S = (match atI ds i with | some e => .ok e S | none => .bad) := rfl
@[simp] theorem x_getS {S : Sto} {i : Int} {ds : List D} : oGet (.seq ds) (.int i) S = (match atI ds i with | some e => .ok e S | none => .bad) := rfl
theorem atI_in {α : Type} {l : List α} {i : Int} (h0 : 0 ≤ i) (h1 : i < l.length) : atI l i = l[i.toNat]? := by
  unfold atI ixN
  rw [if_pos h0, if_pos h1]
  rfl
@[simp] theorem atI_0 {α : Type} {x : α} {l : List α} : atI (x :: l) 0 = some x := by rw [atI_in (by omega) (by simp)]; rfl
@[simp] theorem atI_1 {α : Type} {x y : α} {l : List α} : atI (x :: y :: l) 1 = some y := by rw [atI_in (by omega) (by simp; omega)]; rfl
@[simp] theorem atI_2 {α : Type} {x y z : α} {l : List α} : atI (x :: y :: z :: l) 2 = some z := by rw [atI_in (by omega) (by simp; omega)]; rfl
@[simp] theorem atI_3 {α : Type} {x y z w : α} {l : List α} : atI (x :: y :: z :: w :: l) 3 = some w := by rw [atI_in (by omega) (by simp; omega)]; rfl
mutual
def nb : PyData → Bool
  | .none => true
  | .bool _ => false
  | .int _ => true
  | .str _ => true
  | .list xs => nbs xs
  | .tuple xs => nbs xs
  | .dict _ => false
def nbs : List PyData → Bool
  | [] => true
  | x :: xs => nb x && nbs xs
end
mutual
theorem eqv_iff : ∀ p q : PyData, nb p = true → nb q = true → (PyData.eqv p q = true ↔ p = q)
  | .none, q, _, hq => by cases q <;> simp_all [nb, PyData.eqv]
  | .bool _, q, hp, _ => by simp [nb] at hp
  | .int _, q, _, hq => by cases q <;> simp_all [nb, PyData.eqv]
  | .str _, q, _, hq => by cases q <;> simp_all [nb, PyData.eqv]
  | .dict _, q, hp, _ => by simp [nb] at hp
  | .list xs, q, hp, hq => by
    cases q with
    | list ys =>
      have h := eqvs_iff xs ys (by simpa [nb] using hp) (by simpa [nb] using hq)
      simp [PyData.eqv, h]
    | _ => simp_all [nb, PyData.eqv]
  | .tuple xs, q, hp, hq => by
    cases q with
    | tuple ys =>
      have h := eqvs_iff xs ys (by simpa [nb] using hp) (by simpa [nb] using hq)
      simp [PyData.eqv, h]
    | _ => simp_all [nb, PyData.eqv]
theorem eqvs_iff : ∀ p q : List PyData, nbs p = true → nbs q = true → (PyData.eqvAll p q = true ↔ p = q)
  | [], q, _, _ => by cases q <;> simp [PyData.eqvAll]
  | x :: xs, q, hp, hq => by
    cases q with
    | nil => simp [PyData.eqvAll]
    | cons y ys =>
      simp only [nbs, Bool.and_eq_true] at hp hq
      simp [PyData.eqvAll, eqv_iff x y hp.1 hq.1, eqvs_iff xs ys hp.2 hq.2]
end
theorem frz_t {n : Nat} {S : Sto} {ds : List D} : frz (n + 1) S (.tup ds) = (fall (frz n S) ds).map .tuple := rfl
theorem frz_i {n : Nat} {S : Sto} {i : Int} : frz (n + 1) S (.int i) = some (.int i) := rfl
theorem frz_str {n : Nat} {S : Sto} {i : Str} : frz (n + 1) S (.str i) = some (.str i) := rfl
theorem frz_l {n m : Nat} {S : Sto} {ds : List D} (h : S[m]? = some (.lst ds)) : frz (n + 1) S (.ref m) = (fall (frz n S) ds).map .list := by
  unfold frz
  simp only [h]
theorem fall_cons {α β : Type} {f : α → Option β} {a : α} {r : List α} {b : β} {s : List β} (h : f a = some b) (hr : fall f r = some s) : fall f (a :: r) = some (b :: s) := by
  unfold fall
  rw [h, hr]
theorem frz_ints (n : Nat) (S : Sto) : ∀ ns : List Int, fall (frz (n + 1) S) (ns.map D.int) = some (ns.map PyData.int)
  | [] => rfl
  | i :: r => fall_cons frz_i (frz_ints n S r)
theorem nbs_ints : ∀ ns : List Int, nbs (ns.map PyData.int) = true
  | [] => rfl
  | i :: r => by simp [nbs, nb, nbs_ints r]
theorem lay_ints : ∀ ns : List Int, PyData.canLayAll0 (ns.map PyData.int) = true ∧ PyData.depthAll (ns.map PyData.int) ≤ 1
  | [] => ⟨rfl, by decide⟩
  | i :: r => by
    obtain ⟨a, b⟩ := lay_ints r
    refine ⟨by simp [PyData.canLayAll0, PyData.canLay0, a], ?_⟩
    simp only [List.map_cons, PyData.depthAll, PyData.depth]
    omega
theorem shaped_ints (ns : List Int) : SeqAt.shaped (.list (ns.map PyData.int)) = true := by
  obtain ⟨a, b⟩ := lay_ints ns
  have c : PyData.depth (.list (ns.map PyData.int)) ≤ 64 := by
    rw [PyData.depth]
    omega
  unfold SeqAt.shaped
  rw [PyData.canLay0, a, decide_eq_true c]
  rfl
theorem dEq_frz {S : Sto} {d e : D} {p q : PyData} (hs : sEq d e = none) (hp : frz deep S d = some p) (hq : frz deep S e = some q) (sp : SeqAt.shaped p = true) (sq : SeqAt.shaped q = true) : dEq S d e = some (PyData.eqv p q) := by
  unfold dEq
  simp only [hs, hp, hq]
  rw [if_pos ⟨sp, sq⟩]
theorem dEq_ints {S : Sto} {ns : List Int} {n : Nat} (h : S[n]? = some (.lst [])) : dEq S (.seq (ns.map D.int)) (.ref n) = some (decide (ns = [])) := by
  have e1 : frz deep S (.seq (ns.map D.int)) = some (.list (ns.map PyData.int)) := by
    show (fall (frz (38 + 1) S) (ns.map D.int)).map PyData.list = _
    rw [frz_ints]
    rfl
  have e2 : frz deep S (.ref n) = some (.list []) := by
    show frz (39 + 1) S (.ref n) = _
    rw [frz_l h]
    rfl
  rw [dEq_frz rfl e1 e2 (shaped_ints ns) (shaped_ints [])]
  congr 1
  rw [Bool.eq_iff_iff, eqv_iff _ _ (by simp [nb, nbs_ints]) rfl]
  simp
def Pur (f : Sto → R D) (d : D) : Prop := ∀ S, ∃ E, f S = .ok d (S ++ E)
def cellv (ns : List Int) (k : Int) : Int := if ns = [] then 7 * k else (ns[(k % (ns.length : Int)).toNat]?).getD 0 + 6553 * (k / (ns.length : Int))
theorem cell_sem (n : Nat) (ns : List Int) (k : Int) (hk : 0 ≤ k) (hl : ns.length ≤ 63) : Pur (csem (n + 2) .f__law_cell [.seq (ns.map D.int), .int k]) (.int (cellv ns k)) := fun S => by
  refine ⟨[.lst []], ?_⟩
  rw [cs_f__law_cell]
  have e : dEq (S ++ [O.lst []]) (.seq (ns.map D.int)) (.ref S.length) = some (decide (ns = [])) := dEq_ints (by simp)
  simp [b_f__law_cell, dTest, oEq, e]
  by_cases h : ns = []
  · simp [h, cellv]
  · have hp : 0 < (ns.length : Int) := by have := List.length_pos_iff.mpr h; omega
    have e1 := Int.emod_nonneg k (show (ns.length : Int) ≠ 0 by omega)
    have e2 := Int.emod_lt_of_pos k hp
    have e3 : atI (ns.map D.int) (k % (ns.length : Int)) = some (.int ((ns[(k % (ns.length : Int)).toNat]?).getD 0)) := by
      rw [atI_in e1 (by simpa using e2), List.getElem?_map, List.getElem?_eq_getElem (show (k % (ns.length : Int)).toNat < ns.length by omega)]
      rfl
    have e4 : (ns.length : Int) < 1073741824 := by omega
    simp [h, hp, List.length_pos_iff.mpr h, e3, e4, cellv]
def drw (ns : List Int) (k m : Int) : Int :=
  let a := (cellv ns k % 2147483563 * 69069 + 104723 * (k + 1)) % 2147483563
  let b := (a * a + a / 3) % 2147483399
  (b * b + b / 7) % 2147483647 / 11 % m
theorem drw_lo (ns : List Int) (k : Int) {m : Int} (h : 0 < m) : 0 ≤ drw ns k m := Int.emod_nonneg _ (by omega)
theorem drw_hi (ns : List Int) (k : Int) {m : Int} (h : 0 < m) : drw ns k m < m := Int.emod_lt_of_pos _ h
theorem drawn_sem (n : Nat) (ns : List Int) (k m : Int) (hk : 0 ≤ k) (hm : 0 < m) (hl : ns.length ≤ 63) : Pur (csem (n + 3) .f__law_drawn [.seq (ns.map D.int), .int k, .int m]) (.int (drw ns k m)) := fun S => by
  obtain ⟨E, e⟩ := cell_sem n ns k hk hl S
  refine ⟨E, ?_⟩
  rw [cs_f__law_drawn]
  have b1 := Int.emod_nonneg (cellv ns k) (show (2147483563 : Int) ≠ 0 by decide)
  have b2 := Int.emod_lt_of_pos (cellv ns k) (show (0 : Int) < 2147483563 by decide)
  have c1 := Int.emod_nonneg (cellv ns k % 2147483563 * 69069 + 104723 * (k + 1)) (show (2147483563 : Int) ≠ 0 by decide)
  have c2 := Int.emod_lt_of_pos (cellv ns k % 2147483563 * 69069 + 104723 * (k + 1)) (show (0 : Int) < 2147483563 by decide)
  simp [b_f__law_drawn, e]
  generalize hA : (cellv ns k % 2147483563 * 69069 + 104723 * (k + 1)) % 2147483563 = A at *
  have t1 : -(2 ^ 64) < A ∧ A < 2 ^ 64 := by omega
  have c3 := Int.emod_nonneg (A * A + A / 3) (show (2147483399 : Int) ≠ 0 by decide)
  have c4 := Int.emod_lt_of_pos (A * A + A / 3) (show (0 : Int) < 2147483399 by decide)
  have t1' : -18446744073709551616 < A ∧ A < 18446744073709551616 := by omega
  simp [t1']
  generalize hB : (A * A + A / 3) % 2147483399 = B at *
  have t2 : -18446744073709551616 < B ∧ B < 18446744073709551616 := by omega
  simp [t2, hm, drw, hA, hB]
end DL
namespace DL
open PySem L2
inductive Two where
  | thn | add | les | lop
inductive Deed where
  | num (i : Int) | nam (x : Str) | dod (x : Str) | ask | rd (x : Str)
  | wr (x : Str) (a : Deed) | say (a : Deed) | lt (x : Str) (a b : Deed) | own (x : Str) (a b : Deed)
  | iff (a b c : Deed) | two (w : Two) (a b : Deed) | call (i : Nat) (ps hs : List Deed)
def Two.w : Two → Str
  | .thn => "then" | .add => "add" | .les => "less" | .lop => "loop"
def abcd : List Str := ["a", "b", "c", "d"]
def kd (x : Str) : Nat := if x ∈ (["x", "y", "x1", "z"] : List Str) then 1 else if x ∈ (["p", "q", "p1"] : List Str) then 2 else if x ∈ (["f", "g1", "g"] : List Str) then 3 else 0
mutual
def enc : Deed → D
  | .num i => .tup [.str "number", .int i]
  | .nam x => .tup [.str "name", .str x]
  | .dod x => .tup [.str "do", .str x]
  | .ask => .tup [.str "ask"]
  | .rd x => .tup [.str "read", .str x]
  | .wr x a => .tup [.str "write", .str x, enc a]
  | .say a => .tup [.str "say", enc a]
  | .lt x a b => .tup [.str "let", .str x, enc a, enc b]
  | .own x a b => .tup [.str "own", .str x, enc a, enc b]
  | .iff a b c => .tup [.str "if", enc a, enc b, enc c]
  | .two w a b => .tup [.str w.w, enc a, enc b]
  | .call i ps hs => .tup [.str "call", .int i, .tup (encs ps), .tup (encs hs)]
def encs : List Deed → List D
  | [] => []
  | d :: ds => enc d :: encs ds
end
theorem encs_map : ∀ ds : List Deed, encs ds = ds.map enc
  | [] => rfl
  | d :: ds => by rw [encs, encs_map ds]; rfl
mutual
def dep : Deed → Nat
  | .num _ => 0 | .nam _ => 0 | .dod _ => 0 | .ask => 0 | .rd _ => 0
  | .wr _ a => dep a + 1
  | .say a => dep a + 1
  | .lt _ a b => max (dep a) (dep b) + 1
  | .own _ a b => max (dep a) (dep b) + 1
  | .iff a b c => max (dep a) (max (dep b) (dep c)) + 1
  | .two _ a b => max (dep a) (dep b) + 1
  | .call _ ps hs => max (deps ps) (deps hs) + 1
def deps : List Deed → Nat
  | [] => 0
  | d :: ds => max (dep d) (deps ds)
end
mutual
def okD (sz : List (Nat × Nat)) (K : List Str) : Deed → Prop
  | .num i => 0 ≤ i ∧ i ≤ 1008
  | .nam x => x ∈ K ∧ kd x = 1
  | .dod x => x ∈ K ∧ kd x = 3
  | .ask => True
  | .rd x => (x ∈ K ∧ kd x = 2) ∨ x ∈ abcd
  | .wr x a => ((x ∈ K ∧ kd x = 2) ∨ x ∈ abcd) ∧ okD sz K a
  | .say a => okD sz K a
  | .lt x a b => kd x = 1 ∧ okD sz K a ∧ okD sz (x :: K) b
  | .own x a b => kd x = 2 ∧ okD sz K a ∧ okD sz (x :: K) b
  | .iff a b c => okD sz K a ∧ okD sz K b ∧ okD sz K c
  | .two _ a b => okD sz K a ∧ okD sz K b
  | .call i ps hs => sz[i]? = some (ps.length, hs.length) ∧ okDs sz K ps ∧ okDs sz K hs
def okDs (sz : List (Nat × Nat)) (K : List Str) : List Deed → Prop
  | [] => True
  | d :: ds => okD sz K d ∧ okDs sz K ds
end
theorem okDs_iff {sz : List (Nat × Nat)} {K : List Str} : ∀ {ds : List Deed}, okDs sz K ds ↔ ∀ d ∈ ds, okD sz K d
  | [] => by simp [okDs]
  | d :: ds => by simp [okDs, okDs_iff (ds := ds)]
theorem sub_cons {x : Str} {K K' : List Str} (hk : ∀ y ∈ K, y ∈ K') : ∀ y ∈ x :: K, y ∈ x :: K' := fun y hy => by
  rcases List.mem_cons.mp hy with e | e
  · rw [e]; exact List.mem_cons_self
  · exact List.mem_cons_of_mem _ (hk y e)
mutual
theorem okD_mono {sz : List (Nat × Nat)} {sz' : List (Nat × Nat)} (hz : ∀ (i : Nat) (p : Nat × Nat), sz[i]? = some p → sz'[i]? = some p) : ∀ {K K' : List Str} (d : Deed), (∀ x ∈ K, x ∈ K') → okD sz K d → okD sz' K' d
  | _, _, .num i, _, h => h
  | _, _, .nam x, hk, h => ⟨hk _ h.1, h.2⟩
  | _, _, .dod x, hk, h => ⟨hk _ h.1, h.2⟩
  | _, _, .ask, _, h => trivial
  | _, _, .rd x, hk, h => h.imp (fun q => ⟨hk _ q.1, q.2⟩) id
  | _, _, .wr x a, hk, h => ⟨h.1.imp (fun q => ⟨hk _ q.1, q.2⟩) id, okD_mono hz a hk h.2⟩
  | _, _, .say a, hk, h => okD_mono hz a hk h
  | _, _, .lt x a b, hk, h => ⟨h.1, okD_mono hz a hk h.2.1, okD_mono hz b (sub_cons hk) h.2.2⟩
  | _, _, .own x a b, hk, h => ⟨h.1, okD_mono hz a hk h.2.1, okD_mono hz b (sub_cons hk) h.2.2⟩
  | _, _, .iff a b c, hk, h => ⟨okD_mono hz a hk h.1, okD_mono hz b hk h.2.1, okD_mono hz c hk h.2.2⟩
  | _, _, .two _ a b, hk, h => ⟨okD_mono hz a hk h.1, okD_mono hz b hk h.2⟩
  | _, _, .call i ps hs, hk, h => ⟨hz _ _ h.1, okDs_mono hz ps hk h.2.1, okDs_mono hz hs hk h.2.2⟩
theorem okDs_mono {sz : List (Nat × Nat)} {sz' : List (Nat × Nat)} (hz : ∀ (i : Nat) (p : Nat × Nat), sz[i]? = some p → sz'[i]? = some p) : ∀ {K K' : List Str} (ds : List Deed), (∀ x ∈ K, x ∈ K') → okDs sz K ds → okDs sz' K' ds
  | _, _, [], _, _ => trivial
  | _, _, d :: ds, hk, h => ⟨okD_mono hz d hk h.1, okDs_mono hz ds hk h.2⟩
end
mutual
def pyd : Deed → PyData
  | .num i => .tuple [.str "number", .int i]
  | .nam x => .tuple [.str "name", .str x]
  | .dod x => .tuple [.str "do", .str x]
  | .ask => .tuple [.str "ask"]
  | .rd x => .tuple [.str "read", .str x]
  | .wr x a => .tuple [.str "write", .str x, pyd a]
  | .say a => .tuple [.str "say", pyd a]
  | .lt x a b => .tuple [.str "let", .str x, pyd a, pyd b]
  | .own x a b => .tuple [.str "own", .str x, pyd a, pyd b]
  | .iff a b c => .tuple [.str "if", pyd a, pyd b, pyd c]
  | .two w a b => .tuple [.str w.w, pyd a, pyd b]
  | .call i ps hs => .tuple [.str "call", .int i, .tuple (pyds ps), .tuple (pyds hs)]
def pyds : List Deed → List PyData
  | [] => []
  | d :: ds => pyd d :: pyds ds
end
theorem fall_nil {α β : Type} {f : α → Option β} : fall f [] = some [] := rfl
theorem fall_ok {α β : Type} {f : α → Option β} {a : α} {r : List α} {b : β} (h : f a = some b) : fall f (a :: r) = (fall f r).map (b :: ·) := by
  simp only [fall, h]
  cases fall f r <;> rfl
mutual
theorem frz_enc {S : Sto} : ∀ (d : Deed) (n : Nat), 2 * dep d + 2 ≤ n → frz n S (enc d) = some (pyd d)
  | d, 0, h => by omega
  | d, 1, h => by omega
  | .num i, n + 2, h => rfl
  | .nam x, n + 2, h => rfl
  | .dod x, n + 2, h => rfl
  | .ask, n + 2, h => rfl
  | .rd x, n + 2, h => rfl
  | .wr x a, n + 2, h => by
    have e := frz_enc (S := S) a (n + 1) (by simp only [dep] at h; omega)
    simp [enc, pyd, frz_t, frz_str, fall_ok e, fall_ok frz_str, fall_nil]
  | .say a, n + 2, h => by
    have e := frz_enc (S := S) a (n + 1) (by simp only [dep] at h; omega)
    simp [enc, pyd, frz_t, frz_str, fall_ok e, fall_ok frz_str, fall_nil]
  | .lt x a b, n + 2, h => by
    have e := frz_enc (S := S) a (n + 1) (by simp only [dep] at h; omega)
    have e2 := frz_enc (S := S) b (n + 1) (by simp only [dep] at h; omega)
    simp [enc, pyd, frz_t, frz_str, fall_ok e, fall_ok e2, fall_ok frz_str, fall_nil]
  | .own x a b, n + 2, h => by
    have e := frz_enc (S := S) a (n + 1) (by simp only [dep] at h; omega)
    have e2 := frz_enc (S := S) b (n + 1) (by simp only [dep] at h; omega)
    simp [enc, pyd, frz_t, frz_str, fall_ok e, fall_ok e2, fall_ok frz_str, fall_nil]
  | .iff a b c, n + 2, h => by
    have e := frz_enc (S := S) a (n + 1) (by simp only [dep] at h; omega)
    have e2 := frz_enc (S := S) b (n + 1) (by simp only [dep] at h; omega)
    have e3 := frz_enc (S := S) c (n + 1) (by simp only [dep] at h; omega)
    simp [enc, pyd, frz_t, frz_str, fall_ok e, fall_ok e2, fall_ok e3, fall_ok frz_str, fall_nil]
  | .two w a b, n + 2, h => by
    have e := frz_enc (S := S) a (n + 1) (by simp only [dep] at h; omega)
    have e2 := frz_enc (S := S) b (n + 1) (by simp only [dep] at h; omega)
    simp [enc, pyd, frz_t, frz_str, fall_ok e, fall_ok e2, fall_ok frz_str, fall_nil]
  | .call i ps hs, n + 2, h => by
    have e := frz_encs (S := S) ps n (by simp only [dep] at h; omega)
    have e2 := frz_encs (S := S) hs n (by simp only [dep] at h; omega)
    have t1 : frz (n + 1) S (.tup (encs ps)) = some (.tuple (pyds ps)) := by rw [frz_t, e]; rfl
    have t2 : frz (n + 1) S (.tup (encs hs)) = some (.tuple (pyds hs)) := by rw [frz_t, e2]; rfl
    simp [enc, pyd, frz_t, frz_str, fall_ok t1, fall_ok t2, fall_ok frz_str, fall_ok frz_i, fall_nil]
theorem frz_encs {S : Sto} : ∀ (ds : List Deed) (n : Nat), 2 * deps ds + 2 ≤ n → fall (frz n S) (encs ds) = some (pyds ds)
  | [], n, _ => rfl
  | d :: ds, n, h => by
    simp only [deps] at h
    exact fall_cons (frz_enc d n (by omega)) (frz_encs ds n (by omega))
end
def sok (x : Str) : Bool := PyData.canLay0 (.str x)
theorem sok_1 : ∀ x ∈ (["x", "y", "x1", "z"] : List Str), sok x = true := by decide +kernel
theorem sok_2 : ∀ x ∈ (["p", "q", "p1"] : List Str), sok x = true := by decide +kernel
theorem sok_3 : ∀ x ∈ (["f", "g1", "g"] : List Str), sok x = true := by decide +kernel
theorem sok_kd {x : Str} (h : kd x ≠ 0) : sok x = true := by
  unfold kd at h
  split at h
  · rename_i q
    exact sok_1 x q
  · split at h
    · rename_i q
      exact sok_2 x q
    · split at h
      · rename_i q
        exact sok_3 x q
      · exact absurd rfl h
theorem sok_abcd : ∀ x ∈ abcd, sok x = true := by decide +kernel
def Lay (p : PyData) (k : Nat) : Prop := PyData.canLay0 p = true ∧ PyData.depth p ≤ k
def Lays (p : List PyData) (k : Nat) : Prop := PyData.canLayAll0 p = true ∧ PyData.depthAll p ≤ k
theorem Lay.str {x : Str} (h : sok x = true) (k : Nat) : Lay (.str x) k := ⟨h, by rw [PyData.depth]; omega⟩
theorem Lay.int (i : Int) (k : Nat) : Lay (.int i) k := ⟨rfl, by rw [PyData.depth]; omega⟩
theorem Lays.nil (k : Nat) : Lays [] k := ⟨rfl, by rw [PyData.depthAll]; omega⟩
theorem Lays.cons {p : PyData} {ps : List PyData} {k : Nat} (h : Lay p k) (hs : Lays ps k) : Lays (p :: ps) k :=
  ⟨by rw [PyData.canLayAll0, h.1, hs.1]; rfl, by rw [PyData.depthAll]; exact Nat.max_le.mpr ⟨h.2, hs.2⟩⟩
theorem Lay.tup {ps : List PyData} {k : Nat} (h : Lays ps k) : Lay (.tuple ps) (k + 1) := ⟨by rw [PyData.canLay0]; exact h.1, by rw [PyData.depth]; exact Nat.succ_le_succ h.2⟩
theorem Lay.lst {ps : List PyData} {k : Nat} (h : Lays ps k) : Lay (.list ps) (k + 1) := ⟨by rw [PyData.canLay0]; exact h.1, by rw [PyData.depth]; exact Nat.succ_le_succ h.2⟩
theorem Lay.mono {p : PyData} {k j : Nat} (h : Lay p k) (hj : k ≤ j) : Lay p j := ⟨h.1, Nat.le_trans h.2 hj⟩
theorem Lays.mono {p : List PyData} {k j : Nat} (h : Lays p k) (hj : k ≤ j) : Lays p j := ⟨h.1, Nat.le_trans h.2 hj⟩
theorem Lay.shaped {p : PyData} {k : Nat} (h : Lay p k) (hk : k ≤ 64) : SeqAt.shaped p = true := by
  unfold SeqAt.shaped
  rw [h.1, decide_eq_true (Nat.le_trans h.2 hk)]
  rfl
theorem sok_1' {x : Str} (h : kd x = 1) : sok x = true := sok_kd (by rw [h]; decide)
theorem sok_2' {x : Str} (h : kd x = 2) : sok x = true := sok_kd (by rw [h]; decide)
theorem sok_3' {x : Str} (h : kd x = 3) : sok x = true := sok_kd (by rw [h]; decide)
theorem sok_sh {x : Str} {K : List Str} (h : (x ∈ K ∧ kd x = 2) ∨ x ∈ abcd) : sok x = true := h.elim (fun h => sok_2' h.2) fun h => sok_abcd x h
mutual
theorem lay_deed {sz : List (Nat × Nat)} : ∀ (d : Deed) (K : List Str) (k : Nat), okD sz K d → 2 * dep d + 2 ≤ k → Lay (pyd d) k
  | _, _, 0, _, hk => by omega
  | _, _, 1, _, hk => by omega
  | .num i, K, k + 2, h, hk => .tup (.cons (.str (by decide +kernel) _) (.cons (.int _ _) (.nil _)))
  | .nam x, K, k + 2, h, hk => .tup (.cons (.str (by decide +kernel) _) (.cons (.str (sok_1' h.2) _) (.nil _)))
  | .dod x, K, k + 2, h, hk => .tup (.cons (.str (by decide +kernel) _) (.cons (.str (sok_3' h.2) _) (.nil _)))
  | .ask, K, k + 2, h, hk => .tup (.cons (.str (by decide +kernel) _) (.nil _))
  | .rd x, K, k + 2, h, hk => .tup (.cons (.str (by decide +kernel) _) (.cons (.str (sok_sh h) _) (.nil _)))
  | .wr x a, K, k + 2, h, hk => .tup (.cons (.str (by decide +kernel) _) (.cons (.str (sok_sh h.1) _) (.cons (lay_deed a K (k + 1) h.2 (by simp only [dep] at hk; omega)) (.nil _))))
  | .say a, K, k + 2, h, hk => .tup (.cons (.str (by decide +kernel) _) (.cons (lay_deed a K (k + 1) h (by simp only [dep] at hk; omega)) (.nil _)))
  | .lt x a b, K, k + 2, h, hk => .tup (.cons (.str (by decide +kernel) _) (.cons (.str (sok_1' h.1) _) (.cons (lay_deed a K (k + 1) h.2.1 (by simp only [dep] at hk; omega)) (.cons (lay_deed b (x :: K) (k + 1) h.2.2 (by simp only [dep] at hk; omega)) (.nil _)))))
  | .own x a b, K, k + 2, h, hk => .tup (.cons (.str (by decide +kernel) _) (.cons (.str (sok_2' h.1) _) (.cons (lay_deed a K (k + 1) h.2.1 (by simp only [dep] at hk; omega)) (.cons (lay_deed b (x :: K) (k + 1) h.2.2 (by simp only [dep] at hk; omega)) (.nil _)))))
  | .iff a b c, K, k + 2, h, hk => .tup (.cons (.str (by decide +kernel) _) (.cons (lay_deed a K (k + 1) h.1 (by simp only [dep] at hk; omega)) (.cons (lay_deed b K (k + 1) h.2.1 (by simp only [dep] at hk; omega)) (.cons (lay_deed c K (k + 1) h.2.2 (by simp only [dep] at hk; omega)) (.nil _)))))
  | .two w a b, K, k + 2, h, hk => .tup (.cons (.str (by cases w <;> decide +kernel) _) (.cons (lay_deed a K (k + 1) h.1 (by simp only [dep] at hk; omega)) (.cons (lay_deed b K (k + 1) h.2 (by simp only [dep] at hk; omega)) (.nil _))))
  | .call i ps hs, K, k + 2, h, hk => .tup (.cons (.str (by decide +kernel) _) (.cons (.int _ _) (.cons (.tup (lay_deeds ps K k h.2.1 (by simp only [dep] at hk; omega))) (.cons (.tup (lay_deeds hs K k h.2.2 (by simp only [dep] at hk; omega))) (.nil _)))))
theorem lay_deeds {sz : List (Nat × Nat)} : ∀ (ds : List Deed) (K : List Str) (k : Nat), okDs sz K ds → 2 * deps ds + 2 ≤ k → Lays (pyds ds) k
  | [], K, k, _, _ => .nil _
  | d :: ds, K, k, h, hk => by
    simp only [deps] at hk
    exact .cons (lay_deed d K k h.1 (by omega)) (lay_deeds ds K k h.2 (by omega))
end
structure Rule where
  ns : List Str
  hs : List Str
  b : Deed
def tstr (xs : List Str) : D := .tup (xs.map .str)
def encR (r : Rule) : D := .tup [tstr r.ns, tstr r.hs, enc r.b]
def encRs (rs : List Rule) : D := .tup (rs.map encR)
def szs (rs : List Rule) : List (Nat × Nat) := rs.map fun r => (r.ns.length, r.hs.length)
structure okRl (sz : List (Nat × Nat)) (r : Rule) : Prop where
  n : ∀ x ∈ r.ns, kd x = 1
  h : ∀ x ∈ r.hs, kd x = 3
  nn : r.ns.Nodup
  nh : r.hs.Nodup
  b : okD sz (r.ns ++ r.hs) r.b
def okRs (rs : List Rule) : Prop := ∀ i r, rs[i]? = some r → okRl (szs (rs.take i)) r
def pyR (r : Rule) : PyData := .tuple [.tuple (r.ns.map .str), .tuple (r.hs.map .str), pyd r.b]
theorem fall_map {α β γ : Type} {f : β → Option γ} {g : α → β} {h : α → γ} : ∀ {l : List α}, (∀ a ∈ l, f (g a) = some (h a)) → fall f (l.map g) = some (l.map h)
  | [], _ => rfl
  | a :: r, k => fall_cons (k a List.mem_cons_self) (fall_map fun b hb => k b (List.mem_cons_of_mem _ hb))
theorem lays_map {α : Type} {g : α → PyData} {k : Nat} : ∀ {l : List α}, (∀ a ∈ l, Lay (g a) k) → Lays (l.map g) k
  | [], _ => .nil _
  | a :: r, h => .cons (h a List.mem_cons_self) (lays_map fun b hb => h b (List.mem_cons_of_mem _ hb))
theorem frz_tstr (S : Sto) (n : Nat) (xs : List Str) : frz (n + 2) S (tstr xs) = some (.tuple (xs.map .str)) := by
  unfold tstr
  rw [frz_t, fall_map (h := PyData.str) fun a _ => frz_str]
  rfl
theorem frz_rule {S : Sto} {r : Rule} {n : Nat} (h : 2 * dep r.b + 2 ≤ n + 2) : frz (n + 3) S (encR r) = some (pyR r) := by
  unfold encR
  rw [frz_t, fall_ok (frz_tstr S n _), fall_ok (frz_tstr S n _), fall_ok (frz_enc r.b _ h), fall_nil]
  rfl
theorem lay_rule {sz : List (Nat × Nat)} {r : Rule} {k : Nat} (o : okRl sz r) (h : 2 * dep r.b + 2 ≤ k + 1) : Lay (pyR r) (k + 2) :=
  .tup (.cons (.tup (lays_map fun x hx => .str (sok_1' (o.n x hx)) _)) (.cons (.tup (lays_map fun x hx => .str (sok_3' (o.h x hx)) _)) (.cons (lay_deed r.b _ _ o.b h) (.nil _))))
end DL
namespace DL
open PySem L2
def PurE (B : Sto) (a : Den) (ε : Env) (d : D) : Prop := ∀ S, B <+: S → ∃ E, a ε S = .ok d (S ++ E)
def PurA (B : Sto) (a : DenA) (ε : Env) (ds : List D) : Prop := ∀ S, B <+: S → ∃ E, a ε S = .ok ds (S ++ E)
def PurB (B : Sto) (a : DenB) (ε : Env) (b : Bool) : Prop := ∀ S, B <+: S → ∃ E, a ε S = .ok b (S ++ E)
def PurS (B : Sto) (a : SDen) (ε : Env) (f : Fl) : Prop := ∀ S, B <+: S → ∃ E, a ε S = .ok f (S ++ E)
theorem pre_app {B S E : Sto} (h : B <+: S) : B <+: S ++ E := h.trans (List.prefix_append _ _)
section
variable {B : Sto} {o : Op} {a b c : Den} {ba bb : DenB} {r : DenA} {ε ε' : Env} {d e x : D} {i n : Nat} {u v w : SDen} {g : GDen} {ds : List D} {f : Fn} {F : Fn} {fl : Fl} {t t' : Bool} {j : Int}
theorem pC : PurE B (dC d) ε d := fun S hS => ⟨[], by simp⟩
theorem pV (h : ε[i]? = some (some d) := by rfl) : PurE B (dVar i) ε d := fun S hS => ⟨[], by simp [h]⟩
theorem pN : PurA B dNil ε [] := fun S hS => ⟨[], by simp⟩
theorem pK (ha : PurE B a ε d) (hr : PurA B r ε ds) : PurA B (dCons a r) ε (d :: ds) := fun S hS => by
  obtain ⟨E, e1⟩ := ha S hS
  obtain ⟨E2, e2⟩ := hr (S ++ E) (pre_app hS)
  exact ⟨E ++ E2, by simp [e1, e2]⟩
theorem pT (hr : PurA B r ε ds) (h : ds.length ≤ 1000 := by simp) : PurE B (dTup r) ε (.tup ds) := fun S hS => by
  obtain ⟨E, e1⟩ := hr S hS
  exact ⟨E, by simp [e1, h]⟩
theorem pCall (hr : PurA B r ε ds) (hF : Pur (F ds) d) (h : ds.length = n := by rfl) : PurE B (dCall n F r) ε d := fun S hS => by
  obtain ⟨E, e1⟩ := hr S hS
  obtain ⟨E2, e2⟩ := hF (S ++ E)
  exact ⟨E ++ E2, by simp [e1, e2, h]⟩
theorem pO (ha : PurE B a ε d) (hb : PurE B b ε e) (h : ∀ S, o d e S = .ok x S) : PurE B (dBin o a b) ε x := fun S hS => by
  obtain ⟨E, e1⟩ := ha S hS
  obtain ⟨E2, e2⟩ := hb (S ++ E) (pre_app hS)
  exact ⟨E ++ E2, by simp [e1, e2, h]⟩
theorem pPick (hr : PurA B r ε ds) (hb : PurE B b ε (.int j)) (h : atI ds j = some x) (hl : ds.length ≤ 1000 := by simp) : PurE B (dBin oGet (dLst r) b) ε x := fun S hS => by
  obtain ⟨E, e1⟩ := hr S hS
  obtain ⟨E2, e2⟩ := hb (S ++ E ++ [.lst ds]) (pre_app (pre_app hS))
  refine ⟨E ++ [.lst ds] ++ E2, ?_⟩
  have q : (S ++ E ++ [O.lst ds] ++ E2)[(S ++ E).length]? = some (.lst ds) := by simp
  have z : oGet (.ref (S ++ E).length) (.int j) (S ++ E ++ [O.lst ds] ++ E2) = .ok x (S ++ E ++ [O.lst ds] ++ E2) := x_get (ds := ds) (by simp only [dctAt, q]) (by simp only [items, q]) h
  simp only [x_Bin, x_Lst, e1, x_bind, x_mkLst hl, e2, z]
  simp
theorem pF (hr : PurA B r ε ds) (h : ∀ S, f ds S = .ok x S) : PurE B (dFn f r) ε x := fun S hS => by
  obtain ⟨E, e1⟩ := hr S hS
  exact ⟨E, by simp [e1, h]⟩
theorem pSl0 (ha : PurE B a ε (.tup ds)) (hb : PurE B b ε (.int j)) : PurE B (dSl a (dPart b) dNoPart) ε (.tup (cutD ds (some j) none)) := fun S hS => by
  obtain ⟨E, e1⟩ := ha S hS
  obtain ⟨E2, e2⟩ := hb (S ++ E) (pre_app hS)
  exact ⟨E ++ E2, by simp [e1, e2, dPart, oSl]⟩
theorem pB (ha : PurE B a ε (.bl t)) : PurB B (dTest a) ε t := fun S hS => by
  obtain ⟨E, e1⟩ := ha S hS
  exact ⟨E, by unfold dTest; rw [e1]; rfl⟩
theorem pAnd (ha : PurB B ba ε t) (hb : t = true → PurB B bb ε t') : PurB B (bAnd ba bb) ε (t && t') := fun S hS => by
  obtain ⟨E, e1⟩ := ha S hS
  cases t with
  | false => exact ⟨E, by simp [e1]⟩
  | true =>
    obtain ⟨E2, e2⟩ := hb rfl (S ++ E) (pre_app hS)
    exact ⟨E ++ E2, by simp [e1, e2]⟩
theorem pAndB {r : Bool} (ha : PurB B ba ε t) (hb : t = true → PurB B bb ε t') (h : (t && t') = r) : PurB B (bAnd ba bb) ε r := by
  rw [← h]
  exact pAnd ha hb
theorem pOr (ha : PurB B ba ε t) (hb : t = false → PurB B bb ε t') : PurB B (bOr ba bb) ε (t || t') := fun S hS => by
  obtain ⟨E, e1⟩ := ha S hS
  cases t with
  | true => exact ⟨E, by simp [e1]⟩
  | false =>
    obtain ⟨E2, e2⟩ := hb rfl (S ++ E) (pre_app hS)
    exact ⟨E ++ E2, by simp [e1, e2]⟩
theorem pOrB {r : Bool} (ha : PurB B ba ε t) (hb : t = false → PurB B bb ε t') (h : (t || t') = r) : PurB B (bOr ba bb) ε r := by
  rw [← h]
  exact pOr ha hb
theorem pRet (ha : PurE B a ε d) : PurS B (sRet a) ε (.rt d) := fun S hS => by
  obtain ⟨E, e1⟩ := ha S hS
  exact ⟨E, by simp [e1]⟩
theorem pLet (ha : PurE B a ε d) (hg : ∀ S, g d ε S = some ε') (hw : PurS B w ε' fl) : PurS B (sSeq (sAsg a g) w) ε fl := fun S hS => by
  obtain ⟨E, e1⟩ := ha S hS
  obtain ⟨E2, e2⟩ := hw (S ++ E) (pre_app hS)
  exact ⟨E ++ E2, by simp [e1, hg, e2]⟩
theorem pAsg (ha : PurE B a ε d) (hg : ∀ S, g d ε S = some ε') : PurS B (sAsg a g) ε (.nx ε') := fun S hS => by
  obtain ⟨E, e1⟩ := ha S hS
  exact ⟨E, by simp [e1, hg]⟩
theorem pSkip (hc : PurB B ba ε false) (hw : PurS B w ε fl) : PurS B (sSeq (sIf ba u sNil) w) ε fl := fun S hS => by
  obtain ⟨E, e1⟩ := hc S hS
  obtain ⟨E2, e2⟩ := hw (S ++ E) (pre_app hS)
  exact ⟨E ++ E2, by simp [e1, e2]⟩
theorem pTake (hc : PurB B ba ε true) (hu : PurS B u ε (.rt d)) : PurS B (sSeq (sIf ba u v) w) ε (.rt d) := fun S hS => by
  obtain ⟨E, e1⟩ := hc S hS
  obtain ⟨E2, e2⟩ := hu (S ++ E) (pre_app hS)
  exact ⟨E ++ E2, by simp [e1, e2]⟩
theorem pSeq (hu : PurS B u ε (.nx ε')) (hw : PurS B w ε' fl) : PurS B (sSeq u w) ε fl := fun S hS => by
  obtain ⟨E, e1⟩ := hu S hS
  obtain ⟨E2, e2⟩ := hw (S ++ E) (pre_app hS)
  exact ⟨E ++ E2, by simp [e1, e2]⟩
def PurR (B : Sto) (f : Sto → R D) (d : D) : Prop := ∀ S, B <+: S → ∃ E, f S = .ok d (S ++ E)
theorem Pur.rel {f : Sto → R D} (h : Pur f d) : PurR B f d := fun S _ => h S
theorem PurR.at {f : Sto → R D} (h : PurR [] f d) : Pur f d := fun S => h S (List.nil_prefix)
theorem pur_runR {np nN : Nat} {b : SDen} (h : PurS B b (ds.map some ++ List.replicate (nN - np) none) (.rt d)) (hl : ds.length = np := by rfl) : PurR B (runFn np nN b ds) d := fun S hS => by
  obtain ⟨E, e1⟩ := h S hS
  exact ⟨E, by rw [runFn_fin hl, e1]; rfl⟩
theorem pur_run {np nN : Nat} {b : SDen} (h : PurS [] b (ds.map some ++ List.replicate (nN - np) none) (.rt d)) (hl : ds.length = np := by rfl) : Pur (runFn np nN b ds) d := (pur_runR h hl).at
theorem pCallR (hr : PurA B r ε ds) (hF : PurR B (F ds) d) (h : ds.length = n := by rfl) : PurE B (dCall n F r) ε d := fun S hS => by
  obtain ⟨E, e1⟩ := hr S hS
  obtain ⟨E2, e2⟩ := hF (S ++ E) (pre_app hS)
  exact ⟨E ++ E2, by simp [e1, e2, h]⟩
end
variable {B : Sto}
def scr (ns : List Int) : D := .seq (ns.map D.int)
theorem pDrawn {n : Nat} {ns : List Int} {k m : Int} {ε : Env} {a b c : Den} (hl : ns.length ≤ 63) (hk : 0 ≤ k) (hm : 0 < m) (ha : PurE B a ε (scr ns)) (hb : PurE B b ε (.int k)) (hc : PurE B c ε (.int m)) : PurE B (dCall 3 (csem (n + 3) .f__law_drawn) (dCons a (dCons b (dCons c dNil)))) ε (.int (drw ns k m)) :=
  pCall (pK ha (pK hb (pK hc pN))) (drawn_sem n ns k m hk hm hl)
theorem drw_pick {α : Type} (ns : List Int) (k : Int) {l : List α} (h : l ≠ []) : ∃ x ∈ l, atI l (drw ns k l.length) = some x := by
  have hp : 0 < (l.length : Int) := by have := List.length_pos_iff.mpr h; omega
  have h0 := drw_lo ns k hp
  have h1 := drw_hi ns k hp
  have h2 : (drw ns k l.length).toNat < l.length := by omega
  exact ⟨l[(drw ns k l.length).toNat], List.getElem_mem h2, by rw [atI_in h0 h1, List.getElem?_eq_getElem h2]⟩
theorem atI_map {α β : Type} {f : α → β} {l : List α} {i : Int} {x : α} (h : atI l i = some x) : atI (l.map f) i = some (f x) := by
  unfold atI at h ⊢
  rw [List.length_map]
  cases e : ixN l.length i with
  | none => rw [e] at h; cases h
  | some j =>
    rw [e] at h
    have h' : l[j]? = some x := h
    show (l.map f)[j]? = some (f x)
    rw [List.getElem?_map, h']
    rfl
theorem oNe_nil {ds : List D} {p : List PyData} {k : Nat} {S : Sto} (h : fall (frz 39 S) ds = some p) (hp : Lays p k) (hk : k ≤ 63) : oNe (.tup ds) (.tup []) S = .ok (.bl (!decide (ds = []))) S := by
  have e1 : frz deep S (.tup ds) = some (.tuple p) := by
    show frz (39 + 1) S (.tup ds) = _
    rw [frz_t, h]
    rfl
  unfold oNe
  rw [dEq_frz rfl e1 (show frz deep S (.tup []) = some (.tuple []) from rfl) ((Lay.tup hp).shaped (by omega)) ((Lay.tup (Lays.nil 0)).shaped (by decide))]
  have hl : p = [] ↔ ds = [] := by
    cases ds with
    | nil => have e : some [] = some p := h; cases e; simp
    | cons a r =>
      simp only [reduceCtorEq, iff_false]
      rintro rfl
      unfold fall at h
      split at h <;> cases h
  have e3 : PyData.eqv (.tuple p) (.tuple []) = decide (ds = []) := by
    rw [PyData.eqv]
    cases p with
    | nil => simp [hl.mp rfl, PyData.eqvAll]
    | cons a r =>
      have : ds ≠ [] := fun q => by have := hl.mpr q; cases this
      simp [this, PyData.eqvAll]
  rw [e3]
theorem pNe_str {xs : List Str} {a : Den} {ε : Env} (h : ∀ x ∈ xs, sok x = true) (ha : PurE B a ε (tstr xs)) : PurE B (dBin oNe a (dTup dNil)) ε (.bl (!decide (xs = []))) :=
  pO ha (pT pN) fun S => by
    have e := oNe_nil (S := S) (k := 1) (fall_map (f := frz 39 S) (g := D.str) (h := PyData.str) fun a _ => frz_str) (lays_map fun x hx => .str (h x hx) 1) (by decide)
    unfold tstr
    rw [e]
    simp
def encK (ns os hs : List Str) : D := .tup [tstr ns, tstr os, tstr hs]
structure KnOk (ns os hs : List Str) : Prop where
  n : ∀ x ∈ ns, kd x = 1
  o : ∀ x ∈ os, kd x = 2
  h : ∀ x ∈ hs, kd x = 3
  ln : ns.length ≤ 100
  lo : os.length ≤ 100
  lh : hs.length ≤ 100
def shv (os : List Str) : List Str := abcd ++ (os ++ (os ++ os))
theorem pShv {os : List Str} {a : Den} {ε : Env} (hl : os.length ≤ 100) (ha : PurE B a ε (tstr os)) : PurE B (dBin oAdd (dTup (dCons (dC (.str "a")) (dCons (dC (.str "b")) (dCons (dC (.str "c")) (dCons (dC (.str "d")) dNil))))) (dBin oMul a (dC (.int 3)))) ε (tstr (shv os)) := by
  have h1 : PurE B (dBin oMul a (dC (.int 3))) ε (tstr (os ++ (os ++ os))) := pO ha pC fun S => by
    unfold tstr oMul
    by_cases h : os = []
    · subst h; simp
    · simp [h, show os.length ≤ 1000 by omega, List.replicate_succ]
  refine pO (pT (pK pC (pK pC (pK pC (pK pC pN))))) h1 fun S => ?_
  have hb : 4 + (os ++ (os ++ os)).length ≤ big := by simp [big]; omega
  unfold tstr oAdd shv abcd
  simp only [List.length_map, List.length_cons, List.length_nil, Nat.zero_add, Nat.reduceAdd]
  rw [if_pos hb]
  simp
theorem shv_ok {ns os hs : List Str} {x : Str} (k : KnOk ns os hs) (h : x ∈ shv os) : (x ∈ ns ++ os ++ hs ∧ kd x = 2) ∨ x ∈ abcd := by
  unfold shv at h
  rcases List.mem_append.mp h with h | h
  · exact .inr h
  · have : x ∈ os := by simpa using h
    exact .inl ⟨by simp [this], k.o x this⟩
theorem pLenT {xs : List Str} {a : Den} {ε : Env} (ha : PurE B a ε (tstr xs)) : PurE B (dFn fLen (dCons a dNil)) ε (.int xs.length) := pF (pK ha pN) fun S => by
  unfold tstr
  simp
theorem pGetT {xs : List Str} {i : Int} {x : Str} {a b : Den} {ε : Env} (ha : PurE B a ε (tstr xs)) (hb : PurE B b ε (.int i)) (h : atI xs i = some x) : PurE B (dBin oGet a b) ε (.str x) := pO ha hb fun S => by
  unfold tstr
  simp [atI_map h]
theorem pAdd {a b : Den} {ε : Env} {i j : Int} (ha : PurE B a ε (.int i)) (hb : PurE B b ε (.int j)) : PurE B (dBin oAdd a b) ε (.int (i + j)) := pO ha hb fun _ => rfl
theorem pSub {a b : Den} {ε : Env} {i j : Int} (ha : PurE B a ε (.int i)) (hb : PurE B b ε (.int j)) : PurE B (dBin oSub a b) ε (.int (i - j)) := pO ha hb fun _ => rfl
theorem pMulR {a b : Den} {ε : Env} {i j : Int} (ha : PurE B a ε (.int i)) (hb : PurE B b ε (.int j)) (h : -(2 ^ 64) < j ∧ j < 2 ^ 64 := by decide) : PurE B (dBin oMul a b) ε (.int (i * j)) := pO ha hb fun _ => by
  rw [x_mulI, if_pos (.inr h)]
theorem pMulL {a b : Den} {ε : Env} {i j : Int} (ha : PurE B a ε (.int i)) (hb : PurE B b ε (.int j)) (h : -(2 ^ 64) < i ∧ i < 2 ^ 64 := by decide) : PurE B (dBin oMul a b) ε (.int (i * j)) := pO ha hb fun _ => by
  rw [x_mulI, if_pos (.inl h)]
theorem pLtI {a b : Den} {ε : Env} {i j : Int} {t : Bool} (ha : PurE B a ε (.int i)) (hb : PurE B b ε (.int j)) (h : decide (i < j) = t) : PurB B (dTest (dBin oLt a b)) ε t := pB (pO ha hb fun _ => by rw [x_ltI, h])
theorem pEqI {a b : Den} {ε : Env} {i j : Int} {t : Bool} (ha : PurE B a ε (.int i)) (hb : PurE B b ε (.int j)) (h : decide (i = j) = t) : PurB B (dTest (dBin oEq a b)) ε t := pB (pO ha hb fun _ => by rw [x_eqI, h])
theorem leaf_sem (n : Nat) (ns : List Int) (t : Int) {nm os hs : List Str} (sz : List (Nat × Nat)) (ht : 0 ≤ t) (hl : ns.length ≤ 63) (k : KnOk nm os hs) : ∃ d, Pur (csem (n + 4) .f__law_leaf [scr ns, .int t, encK nm os hs]) (enc d) ∧ okD sz (nm ++ os ++ hs) d ∧ dep d = 0 := by
  rw [cs_f__law_leaf]
  have w0 := drw_lo ns t (m := 8) (by decide)
  have w1 := drw_hi ns t (m := 8) (by decide)
  generalize hw : drw ns t 8 = w at w0 w1
  have hK : ∀ S, gT 3 (gsCons (gN 3) (gsCons (gN 4) (gsCons (gN 5) gsNil))) (encK nm os hs) [some (scr ns), some (D.int t), some (encK nm os hs), none, none, none, none, none] S = some [some (scr ns), some (D.int t), some (encK nm os hs), some (tstr nm), some (tstr os), some (tstr hs), none, none] := fun S => rfl
  have beg : ∀ {fl : Fl} {rest : SDen}, PurS [] rest [some (scr ns), some (D.int t), some (encK nm os hs), some (tstr nm), some (tstr os), some (tstr hs), some (.int w), none] fl →
      PurS [] (sSeq (sAsg (dVar 2) (gT 3 (gsCons (gN 3) (gsCons (gN 4) (gsCons (gN 5) gsNil))))) (sSeq (sAsg (dCall 3 (csem (n + 3) .f__law_drawn) (dCons (dVar 0) (dCons (dVar 1) (dCons (dC (.int 8)) dNil)))) (gN 6)) rest)) [some (scr ns), some (D.int t), some (encK nm os hs), none, none, none, none, none] fl := fun h => by
    refine pLet pV hK (pLet (pDrawn hl ht (by decide) pV pV pC) (fun S => rfl) ?_)
    rw [hw]
    exact h
  have t1 : (0 : Int) ≤ t + 1 := by omega
  by_cases c1 : w < 2
  · obtain ⟨v, hv, hp⟩ := drw_pick ns (t + 1) (l := ([0, 1, 2, 3, 7, 1008] : List Int)) (by simp)
    have hv' : 0 ≤ v ∧ v ≤ 1008 := by simp at hv; omega
    refine ⟨.num v, pur_run (beg (pTake (pLtI pV pC (by simp [c1])) (pRet (pT (pK pC (pK ?_ pN)))))), hv', rfl⟩
    refine pPick (pK pC (pK pC (pK pC (pK pC (pK pC (pK pC pN)))))) (pDrawn hl t1 (by decide) pV (pAdd pV pC) pC) ?_
    exact atI_map (f := D.int) hp
  have s1 : PurB [] (dTest (dBin oLt (dVar 6) (dC (.int 2)))) [some (scr ns), some (D.int t), some (encK nm os hs), some (tstr nm), some (tstr os), some (tstr hs), some (.int w), none] false := pLtI pV pC (by simp [c1])
  have sokn : ∀ x ∈ nm, sok x = true := fun x hx => sok_1' (k.n x hx)
  have sokh : ∀ x ∈ hs, sok x = true := fun x hx => sok_3' (k.h x hx)
  by_cases c2 : w = 2 ∧ nm ≠ []
  · obtain ⟨v, hv, hp⟩ := drw_pick ns (t + 1) c2.2
    have hm : 0 < (nm.length : Int) := by have := List.length_pos_iff.mpr c2.2; omega
    refine ⟨.nam v, pur_run (beg (pSkip s1 (pTake ?_ (pRet (pT (pK pC (pK ?_ pN))))))), ⟨by simp [hv], k.n v hv⟩, rfl⟩
    · exact pAndB (pEqI pV pC rfl) (fun _ => pB (pNe_str sokn pV)) (by simp [c2.1, c2.2])
    · exact pGetT pV (pDrawn hl t1 hm pV (pAdd pV pC) (pLenT pV)) hp
  have s2 : PurB [] (bAnd (dTest (dBin oEq (dVar 6) (dC (.int 2)))) (dTest (dBin oNe (dVar 3) (dTup dNil)))) [some (scr ns), some (D.int t), some (encK nm os hs), some (tstr nm), some (tstr os), some (tstr hs), some (.int w), none] false :=
    pAndB (pEqI pV pC rfl) (fun _ => pB (pNe_str sokn pV)) (by by_cases q : w = 2 <;> simp_all)
  by_cases c3 : w = 3 ∧ hs ≠ []
  · obtain ⟨v, hv, hp⟩ := drw_pick ns (t + 1) c3.2
    have hm : 0 < (hs.length : Int) := by have := List.length_pos_iff.mpr c3.2; omega
    refine ⟨.dod v, pur_run (beg (pSkip s1 (pSkip s2 (pTake ?_ (pRet (pT (pK pC (pK ?_ pN)))))))), ⟨by simp [hv], k.h v hv⟩, rfl⟩
    · exact pAndB (pEqI pV pC rfl) (fun _ => pB (pNe_str sokh pV)) (by simp [c3.1, c3.2])
    · exact pGetT pV (pDrawn hl t1 hm pV (pAdd pV pC) (pLenT pV)) hp
  have s3 : PurB [] (bAnd (dTest (dBin oEq (dVar 6) (dC (.int 3)))) (dTest (dBin oNe (dVar 5) (dTup dNil)))) [some (scr ns), some (D.int t), some (encK nm os hs), some (tstr nm), some (tstr os), some (tstr hs), some (.int w), none] false :=
    pAndB (pEqI pV pC rfl) (fun _ => pB (pNe_str sokh pV)) (by by_cases q : w = 3 <;> simp_all)
  by_cases c4 : w = 4
  · exact ⟨.ask, pur_run (beg (pSkip s1 (pSkip s2 (pSkip s3 (pTake (pEqI pV pC (by simp [c4])) (pRet (pT (pK pC pN)))))))), trivial, rfl⟩
  · have hne : shv os ≠ [] := by simp [shv, abcd]
    obtain ⟨v, hv, hp⟩ := drw_pick ns (t + 1) hne
    have hm : 0 < ((shv os).length : Int) := by have := List.length_pos_iff.mpr hne; omega
    refine ⟨.rd v, pur_run (beg (pSkip s1 (pSkip s2 (pSkip s3 (pSkip (pEqI pV pC (by simp [c4])) (pLet (pShv k.lo pV) (fun _ => rfl) (pRet (pT (pK pC (pK ?_ pN)))))))))), shv_ok k hv, rfl⟩
    exact pGetT pV (pDrawn hl t1 hm pV (pAdd pV pC) (pLenT pV)) hp
theorem pNe_rules {rs : List Rule} {a : Den} {ε : Env} (o : okRs rs) (hd : ∀ r ∈ rs, dep r.b ≤ 10) (ha : PurE B a ε (encRs rs)) : PurE B (dBin oNe a (dTup dNil)) ε (.bl (!decide (rs = []))) :=
  pO ha (pT pN) fun S => by
    have e := oNe_nil (S := S) (k := 40) (fall_map (f := frz 39 S) (g := encR) (h := pyR) fun r hr => frz_rule (n := 36) (by have := hd r hr; omega)) (lays_map fun r hr => by
      obtain ⟨i, hi⟩ := List.getElem?_of_mem hr
      exact (lay_rule (k := 30) (o i r hi) (by have := hd r hr; omega)).mono (by omega)) (by decide)
    unfold encRs
    rw [e]
    simp
theorem pGetRule {rs : List Rule} {i : Int} {r : Rule} {a b : Den} {ε : Env} (ha : PurE B a ε (encRs rs)) (hb : PurE B b ε (.int i)) (h : atI rs i = some r) : PurE B (dBin oGet a b) ε (encR r) := pO ha hb fun S => by
  unfold encRs
  simp [atI_map h]
theorem pGet {ds : List D} {i : Int} {x : D} {a b : Den} {ε : Env} (ha : PurE B a ε (.tup ds)) (hb : PurE B b ε (.int i)) (h : atI ds i = some x := by simp) : PurE B (dBin oGet a b) ε x := pO ha hb fun S => by
  simp [h]
end DL
namespace DL
open PySem L2
theorem nums_get {m i : Nat} : (nums 0 m)[i]? = if i < m then some (.int (i : Int)) else none := by
  unfold nums
  rw [List.getElem?_map]
  by_cases h : i < m
  · rw [if_pos h, List.getElem?_eq_getElem (by simpa using h)]
    simp
  · rw [if_neg h, List.getElem?_eq_none (by simpa using h)]
    rfl
theorem mid_get {α : Type} {A B : List α} {x : α} : (A ++ [x] ++ B)[A.length]? = some x := by simp
theorem mid_set {α : Type} {A B : List α} {x y : α} : (A ++ [x] ++ B).set A.length y = A ++ [y] ++ B := by simp
theorem for_app {m jl jv : Nat} {A : Sto} {ε : Env} {dd : Nat → D} {a : Den} (hl : ε[jl]? = some (some (.ref A.length))) (hn : jl ≠ jv) (hm : m ≤ 1000) (ha : ∀ k : Nat, PurE [] a (ε.set jv (some (.int k))) (dd k)) :
    ∀ (c i : Nat) (v : Option D) (B : Sto), i + c = m → ∃ v' B', forI (fun _ => some (nums 0 m)) (gN jv) (sExpr (dAppend (dVar jl) a)) (c + 1) i (ε.set jv v) (A ++ [.lst ((List.range i).map dd)] ++ B) = .ok (.nx (ε.set jv v')) (A ++ [.lst ((List.range m).map dd)] ++ B')
  | 0, i, v, B, h => by
    obtain rfl : i = m := by omega
    refine ⟨v, B, ?_⟩
    unfold forI
    simp only [nums_get, if_neg (Nat.lt_irrefl i)]
  | c + 1, i, v, B, h => by
    obtain ⟨E, e⟩ := ha i (A ++ [.lst ((List.range i).map dd)] ++ B) List.nil_prefix
    obtain ⟨v', B', r⟩ := for_app hl hn hm ha c (i + 1) (some (.int i)) (B ++ E) (by omega)
    refine ⟨v', B', ?_⟩
    unfold forI
    have hv : dVar jl (ε.set jv (some (D.int i))) (A ++ [O.lst ((List.range i).map dd)] ++ B) = .ok (.ref A.length) (A ++ [O.lst ((List.range i).map dd)] ++ B) := x_Var (by rw [List.getElem?_set_ne (Ne.symm hn)]; exact hl)
    have g1 : lstAt (A ++ [O.lst ((List.range i).map dd)] ++ B) (.ref A.length) = some (A.length, (List.range i).map dd) := by
      unfold lstAt
      simp only [mid_get]
    have g2 : lstAt (A ++ [O.lst ((List.range i).map dd)] ++ B ++ E) (.ref A.length) = some (A.length, (List.range i).map dd) := by
      unfold lstAt
      rw [List.append_assoc]
      simp only [mid_get]
    have hb : ((List.range i).map dd).length < big := by rw [List.length_map, List.length_range]; exact Nat.lt_of_lt_of_le (show i < 1001 by omega) (by decide)
    have st : (A ++ [O.lst ((List.range i).map dd)] ++ B ++ E).set A.length (.lst ((List.range i).map dd ++ [dd i])) = A ++ [.lst ((List.range (i + 1)).map dd)] ++ (B ++ E) := by
      rw [List.append_assoc, mid_set, List.range_succ, List.map_append]
      rfl
    have body : sExpr (dAppend (dVar jl) a) (ε.set jv (some (D.int i))) (A ++ [O.lst ((List.range i).map dd)] ++ B) = .ok (.nx (ε.set jv (some (D.int i)))) (A ++ [.lst ((List.range (i + 1)).map dd)] ++ (B ++ E)) := by
      rw [x_Expr]
      unfold dAppend
      simp only [hv, x_bind, g1, e, g2, if_pos hb, st, x_sE]
    simp only [nums_get, if_pos (show i < m by omega), x_gN, List.set_set, body]
    exact r
theorem oSl_lo {S : Sto} {n : Nat} {ds : List D} {k : Nat} (h : S[n]? = some (.lst ds)) (hd : ds.length ≤ 1000) (hk : k ≤ ds.length) : oSl (.ref n) none (some (k : Int)) S = .ok (.ref S.length) (S ++ [.lst (ds.take k)]) := by
  unfold oSl
  simp only [h]
  rw [if_pos (Nat.le_trans hd (by decide))]
  unfold cutD
  rw [HT.sIx_nat, HT.sIx_none, Nat.min_eq_left hk]
  simp
theorem oSl_hi {S : Sto} {n : Nat} {ds : List D} {k : Nat} (h : S[n]? = some (.lst ds)) (hd : ds.length ≤ 1000) (hk : k ≤ ds.length) : oSl (.ref n) (some (k : Int)) none S = .ok (.ref S.length) (S ++ [.lst (ds.drop k)]) := by
  unfold oSl
  simp only [h]
  rw [if_pos (Nat.le_trans hd (by decide))]
  unfold cutD
  rw [HT.sIx_nat, HT.sIx_none, Nat.min_eq_left hk]
  congr 4
  rw [List.take_of_length_le]
  simp
theorem fTuple_ref {S : Sto} {n : Nat} {ds : List D} (h : S[n]? = some (.lst ds)) : fTuple [.ref n] S = .ok (.tup ds) S := by
  unfold fTuple items
  simp only [h]
theorem okR_of {i : Int} (h : 0 ≤ i) (h2 : i ≤ 100000) : okR i := by
  unfold okR
  constructor <;> omega
theorem iRange1_of {a : Den} {ε : Env} {S S' : Sto} {j : Int} (h : okR j) (ha : a ε S = .ok (.int j) S') : iRange1 a ε S = .ok (fun _ => some (nums 0 j.toNat)) S' := by
  unfold iRange1
  rw [ha, x_bind]
  show (if okR j then _ else _) = _
  rw [if_pos h]
theorem sFor_of {it : IDen} {g : GDen} {b : SDen} {ε ε' : Env} {S S1 S2 : Sto} {m : Nat} (hi : it ε S = .ok (fun _ => some (nums 0 m)) S1) (hf : forI (fun _ => some (nums 0 m)) g b (m + 1) 0 ε S1 = .ok (.nx ε') S2) : sFor it g b ε S = .ok (.nx ε') S2 := by
  unfold sFor
  rw [hi, x_sE]
  show forI _ g b ((nums 0 m).length + 1) 0 ε S1 = _
  rw [nums_len]
  exact hf
theorem getLast_app {α : Type} {A : List α} {x : α} : (A ++ [x])[A.length]? = some x := by simp
theorem call_sem (n deep : Nat) (ns : List Int) (t : Int) {kn : D} {K : List Str} {rs : List Rule} (ht : 0 ≤ t) (hl : ns.length ≤ 63) (hr : rs ≠ []) (hs : ∀ r ∈ rs, r.ns.length ≤ 100 ∧ r.hs.length ≤ 100)
    (ih : ∀ t : Int, 0 ≤ t → ∃ d, Pur (csem (n + 3) .f__law_deed [scr ns, .int t, .int deep, kn, encRs rs]) (enc d) ∧ okD (szs rs) K d ∧ dep d ≤ deep) :
    ∃ d, Pur (csem (n + 4) .f__law_call [scr ns, .int t, .int ((deep : Int) + 1), kn, encRs rs]) (enc d) ∧ okD (szs rs) K d ∧ dep d ≤ deep + 1 := by
  obtain ⟨r, hrm, hpick⟩ := drw_pick ns (t + 3) hr
  have hlen : 0 < (rs.length : Int) := by have := List.length_pos_iff.mpr hr; omega
  obtain ⟨h1, h2⟩ := hs r hrm
  have w0 := drw_lo ns (t + 3) hlen
  have w1 := drw_hi ns (t + 3) hlen
  generalize hw : drw ns (t + 3) (rs.length : Int) = w at w0 w1 hpick
  let dd : Nat → Deed := fun k => Classical.choose (ih (t * 3 + 7 + 5 * (k : Int)) (by omega))
  have hdd : ∀ k : Nat, Pur (csem (n + 3) .f__law_deed [scr ns, .int (t * 3 + 7 + 5 * (k : Int)), .int deep, kn, encRs rs]) (enc (dd k)) ∧ okD (szs rs) K (dd k) ∧ dep (dd k) ≤ deep := fun k => Classical.choose_spec (ih (t * 3 + 7 + 5 * (k : Int)) (by omega))
  clear_value dd
  let m := r.ns.length + r.hs.length
  let ds : List Deed := (List.range m).map dd
  have hds : ∀ d ∈ ds, okD (szs rs) K d ∧ dep d ≤ deep := fun d hd => by
    obtain ⟨k, _, rfl⟩ := List.mem_map.mp hd
    exact (hdd k).2
  have dsl : ds.length = m := by simp [ds]
  have deps_le : ∀ xs : List Deed, (∀ d ∈ xs, dep d ≤ deep) → deps xs ≤ deep := by
    intro xs
    induction xs with
    | nil => intro _; exact Nat.zero_le _
    | cons a b q => intro h; exact Nat.max_le.mpr ⟨h a List.mem_cons_self, q fun d hd => h d (List.mem_cons_of_mem _ hd)⟩
  refine ⟨.call w.toNat (ds.take r.ns.length) (ds.drop r.ns.length), ?_, ⟨?_, okDs_iff.mpr fun d hd => (hds d (List.mem_of_mem_take hd)).1, okDs_iff.mpr fun d hd => (hds d (List.mem_of_mem_drop hd)).1⟩, ?_⟩
  · have hrw : (w.toNat : Int) = w := by omega
    rw [cs_f__law_call]
    refine pur_run ?_
    unfold b_f__law_call
    have t3 : (0 : Int) ≤ t + 3 := by omega
    refine pLet (pDrawn hl t3 hlen pV (pAdd pV pC) ?_) (fun S => rfl) ?_
    · exact pF (pK pV pN) fun S => by unfold encRs; simp
    rw [hw]
    refine pLet (pLenT (xs := r.ns) (pGet (pGetRule pV pV hpick) pC)) (fun S => rfl) ?_
    intro S _
    have ev : (List.map some [scr ns, D.int t, D.int ((deep : Int) + 1), kn, encRs rs] ++ List.replicate (9 - 5) none).set 5 (some (D.int w)) = [some (scr ns), some (D.int t), some (D.int ((deep : Int) + 1)), some kn, some (encRs rs), some (.int w), none, none, none] := rfl
    simp only [ev, List.set_cons_succ, List.set_cons_zero, x_Seq, x_Asg, x_Lst, x_Nil, x_bind, x_mkLst (show ([] : List D).length ≤ 1000 by decide), x_sE, x_gN, x_sN]
    -- the loop's bound
    have hm : PurE [] (dBin oAdd (dVar 6) (dFn fLen (dCons (dBin oGet (dBin oGet (dVar 4) (dVar 5)) (dC (.int 1))) dNil))) [some (scr ns), some (D.int t), some (D.int ((deep : Int) + 1)), some kn, some (encRs rs), some (.int w), some (.int r.ns.length), some (.ref S.length), none] (.int ((r.ns.length : Int) + (r.hs.length : Int))) :=
      pAdd pV (pLenT (xs := r.hs) (pGet (pGetRule pV pV hpick) pC))
    obtain ⟨E0, e0⟩ := hm (S ++ [.lst []]) List.nil_prefix
    have ok1 : okR ((r.ns.length : Int) + (r.hs.length : Int)) := okR_of (by omega) (by omega)
    have emi : ((r.ns.length : Int) + (r.hs.length : Int)).toNat = m := by omega
    obtain ⟨v', B', loop⟩ := for_app (m := m) (jl := 7) (jv := 8) (A := S) (ε := [some (scr ns), some (D.int t), some (D.int ((deep : Int) + 1)), some kn, some (encRs rs), some (.int w), some (.int r.ns.length), some (.ref S.length), none]) (dd := fun k => enc (dd k))
      (a := dCall 5 (csem (n + 3) .f__law_deed) (dCons (dVar 0) (dCons (dBin oAdd (dBin oAdd (dBin oMul (dVar 1) (dC (.int 3))) (dC (.int 7))) (dBin oMul (dC (.int 5)) (dVar 8))) (dCons (dBin oSub (dVar 2) (dC (.int 1))) (dCons (dVar 3) (dCons (dVar 4) dNil))))))
      rfl (by decide) (by omega) (fun k => by
        refine pCall (pK pV (pK (pAdd (pAdd (pMulR pV pC) pC) (pMulL pC (pV (d := .int k)))) (pK (pSub pV pC) (pK pV (pK pV pN))))) ?_
        have e : (deep : Int) + 1 - 1 = deep := by omega
        rw [e]
        exact (hdd k).1) m 0 none E0 (by omega)
    have hlst : (List.range m).map (fun k => enc (dd k)) = encs ds := by simp [ds, encs_map, Function.comp_def]
    rw [hlst] at loop
    have floop : sFor (iRange1 (dBin oAdd (dVar 6) (dFn fLen (dCons (dBin oGet (dBin oGet (dVar 4) (dVar 5)) (dC (.int 1))) dNil)))) (gN 8) (sExpr (dAppend (dVar 7) (dCall 5 (csem (n + 3) .f__law_deed) (dCons (dVar 0) (dCons (dBin oAdd (dBin oAdd (dBin oMul (dVar 1) (dC (.int 3))) (dC (.int 7))) (dBin oMul (dC (.int 5)) (dVar 8))) (dCons (dBin oSub (dVar 2) (dC (.int 1))) (dCons (dVar 3) (dCons (dVar 4) dNil))))))))
        [some (scr ns), some (D.int t), some (D.int ((deep : Int) + 1)), some kn, some (encRs rs), some (.int w), some (.int r.ns.length), some (.ref S.length), none] (S ++ [.lst []]) = .ok (.nx [some (scr ns), some (D.int t), some (D.int ((deep : Int) + 1)), some kn, some (encRs rs), some (.int w), some (.int r.ns.length), some (.ref S.length), v']) (S ++ [.lst (encs ds)] ++ B') := by
      have it := iRange1_of ok1 e0
      rw [emi] at it
      exact sFor_of it loop
    rw [floop]
    have g1 : (S ++ [O.lst (encs ds)] ++ B')[S.length]? = some (.lst (encs ds)) := mid_get
    have el : (encs ds).length = m := by rw [encs_map, List.length_map, dsl]
    have a1 := oSl_lo (k := r.ns.length) g1 (by omega) (by omega)
    have g2 : (S ++ [O.lst (encs ds)] ++ B' ++ [O.lst ((encs ds).take r.ns.length)])[S.length]? = some (.lst (encs ds)) := by
      rw [List.getElem?_append_left (List.getElem?_eq_some_iff.mp g1).1]
      exact g1
    have a2 := oSl_hi (k := r.ns.length) g2 (by omega) (by omega)
    refine ⟨[O.lst (encs ds)] ++ B' ++ [O.lst ((encs ds).take r.ns.length)] ++ [O.lst ((encs ds).drop r.ns.length)], ?_⟩
    have f1 := fTuple_ref (getLast_app (A := S ++ [O.lst (encs ds)] ++ B') (x := O.lst ((encs ds).take r.ns.length)))
    have f2 := fTuple_ref (getLast_app (A := S ++ [O.lst (encs ds)] ++ B' ++ [O.lst ((encs ds).take r.ns.length)]) (x := O.lst ((encs ds).drop r.ns.length)))
    have v5 : dVar 5 [some (scr ns), some (D.int t), some (D.int ((deep : Int) + 1)), some kn, some (encRs rs), some (.int w), some (.int r.ns.length), some (.ref S.length), v'] = fun S => .ok (.int w) S := rfl
    have v6 : dVar 6 [some (scr ns), some (D.int t), some (D.int ((deep : Int) + 1)), some kn, some (encRs rs), some (.int w), some (.int r.ns.length), some (.ref S.length), v'] = fun S => .ok (.int r.ns.length) S := rfl
    have v7 : dVar 7 [some (scr ns), some (D.int t), some (D.int ((deep : Int) + 1)), some kn, some (encRs rs), some (.int w), some (.int r.ns.length), some (.ref S.length), v'] = fun S' => .ok (.ref S.length) S' := rfl
    simp only [x_sN, x_Ret, x_Tup, x_Cons, x_C, x_bind, v5, v6, v7, x_Fn, x_Sl, x_NoPart, dPart, a1, a2, f1, f2, x_Nil, x_mkTup (show [D.str "call", D.int w, D.tup ((encs ds).take r.ns.length), D.tup ((encs ds).drop r.ns.length)].length ≤ 1000 by simp), x_sE]
    rw [enc, encs_map, encs_map, encs_map, List.map_take, List.map_drop, hrw]
    simp
  · have q : rs[w.toNat]? = some r := by
      rw [atI_in w0 (by omega)] at hpick
      exact hpick
    unfold szs
    rw [List.getElem?_map, q]
    simp only [Option.map_some, Option.some.injEq, Prod.mk.injEq, List.length_take, List.length_drop, dsl]
    omega
  · simp only [dep]
    have a := deps_le (ds.take r.ns.length) fun d hd => (hds d (List.mem_of_mem_take hd)).2
    have b := deps_le (ds.drop r.ns.length) fun d hd => (hds d (List.mem_of_mem_drop hd)).2
    omega
end DL
namespace DL
open PySem L2
variable {B : Sto}
theorem pKeyApp {xs : List Str} {x : Str} {a b : Den} {ε : Env} (hl : xs.length ≤ 100) (ha : PurE B a ε (tstr xs)) (hb : PurE B b ε (.str x)) : PurE B (dBin oAdd a (dTup (dCons b dNil))) ε (tstr (xs ++ [x])) := pO ha (pT (pK hb pN)) fun S => by
  unfold tstr oAdd
  simp only [List.length_map, List.length_cons, List.length_nil]
  rw [if_pos (Nat.le_trans (show xs.length + (0 + 1) ≤ 1000 by omega) (by decide))]
  simp
theorem pKn0 {ns os hs : List Str} {a : Den} {ε : Env} (ha : PurE B a ε (encK ns os hs)) : PurE B (dBin oGet a (dC (.int 0))) ε (tstr ns) := pO ha pC fun S => by unfold encK; simp
theorem pKn1 {ns os hs : List Str} {a : Den} {ε : Env} (ha : PurE B a ε (encK ns os hs)) : PurE B (dBin oGet a (dC (.int 1))) ε (tstr os) := pO ha pC fun S => by unfold encK; simp
theorem pKn2 {ns os hs : List Str} {a : Den} {ε : Env} (ha : PurE B a ε (encK ns os hs)) : PurE B (dBin oGet a (dC (.int 2))) ε (tstr hs) := pO ha pC fun S => by unfold encK; simp
theorem KnOk.nam {ns os hs : List Str} {x : Str} (k : KnOk ns os hs) (h : kd x = 1) (hl : ns.length < 100) : KnOk (ns ++ [x]) os hs :=
  ⟨fun y hy => by rcases List.mem_append.mp hy with q | q; · exact k.n y q
                  · rw [List.mem_singleton.mp q]; exact h, k.o, k.h, by simp; omega, k.lo, k.lh⟩
theorem KnOk.ow {ns os hs : List Str} {x : Str} (k : KnOk ns os hs) (h : kd x = 2) (hl : os.length < 100) : KnOk ns (os ++ [x]) hs :=
  ⟨k.n, fun y hy => by rcases List.mem_append.mp hy with q | q; · exact k.o y q
                       · rw [List.mem_singleton.mp q]; exact h, k.h, k.ln, by simp; omega, k.lh⟩
structure RsOk (rs : List Rule) : Prop where
  ok : okRs rs
  dep : ∀ r ∈ rs, dep r.b ≤ 10
  len : ∀ r ∈ rs, r.ns.length ≤ 100 ∧ r.hs.length ≤ 100
theorem deed_sem (ns : List Int) (hl : ns.length ≤ 63) {rs : List Rule} (R : RsOk rs) : ∀ (deep n : Nat) (t : Int) (nm os hs : List Str), 2 * deep + 5 ≤ n → 0 ≤ t → KnOk nm os hs → nm.length + deep ≤ 100 → os.length + deep ≤ 100 →
    ∃ d, Pur (csem n .f__law_deed [scr ns, .int t, .int deep, encK nm os hs, encRs rs]) (enc d) ∧ okD (szs rs) (nm ++ os ++ hs) d ∧ dep d ≤ deep := by
  intro deep
  induction deep with
  | zero =>
    intro n t nm os hs hn ht k _ _
    obtain ⟨n, rfl⟩ : ∃ j, n = j + 5 := ⟨n - 5, by omega⟩
    obtain ⟨d, hd, ho, hp⟩ := leaf_sem n ns (t + 1) (szs rs) (by omega) hl k
    refine ⟨d, ?_, ho, by omega⟩
    rw [cs_f__law_deed]
    refine pur_run ?_
    unfold b_f__law_deed
    refine pLet (pDrawn hl ht (by decide) pV pV pC) (fun S => rfl) (pTake (pOrB (pEqI pV pC rfl) (fun _ => pLtI pV pC rfl) (by simp)) (pRet (pCall (pK pV (pK (pAdd pV pC) (pK pV pN))) hd)))
  | succ deep ih =>
    intro n t nm os hs hn ht k hnm hos
    obtain ⟨n, rfl⟩ : ∃ j, n = j + 5 := ⟨n - 5, by omega⟩
    have sub : ∀ (t' : Int) (nm' os' : List Str), 0 ≤ t' → KnOk nm' os' hs → nm'.length + deep ≤ 100 → os'.length + deep ≤ 100 → ∃ d, Pur (csem (n + 4) .f__law_deed [scr ns, .int t', .int deep, encK nm' os' hs, encRs rs]) (enc d) ∧ okD (szs rs) (nm' ++ os' ++ hs) d ∧ dep d ≤ deep :=
      fun t' nm' os' h1 h2 h3 h4 => ih (n + 4) t' nm' os' hs (by omega) h1 h2 h3 h4
    have w0 := drw_lo ns t (m := 15) (by decide)
    have w1 := drw_hi ns t (m := 15) (by decide)
    generalize hw : drw ns t 15 = w at w0 w1
    have hd1 : (deep : Int) + 1 - 1 = deep := by omega
    have hcast : ((deep + 1 : Nat) : Int) = (deep : Int) + 1 := by omega
    rw [hcast]
    -- the beginning
    have beg : ∀ {d : D} {rest : SDen}, PurS [] rest [some (scr ns), some (D.int t), some (D.int ((deep : Int) + 1)), some (encK nm os hs), some (encRs rs), some (.int w), none, none, none, none, none] (.rt d) →
        PurS [] (sSeq (sAsg (dCall 3 (csem (n + 4) .f__law_drawn) (dCons (dVar 0) (dCons (dVar 1) (dCons (dC (.int 15)) dNil)))) (gN 5)) rest) [some (scr ns), some (D.int t), some (D.int ((deep : Int) + 1)), some (encK nm os hs), some (encRs rs), none, none, none, none, none, none] (.rt d) := fun h => by
      refine pLet (pDrawn hl ht (by decide) pV pV pC) (fun S => rfl) ?_
      rw [hw]
      exact h
    by_cases c1 : w < 2
    · obtain ⟨d, hd, ho, hp⟩ := leaf_sem n ns (t + 1) (szs rs) (by omega) hl k
      refine ⟨d, ?_, ho, by omega⟩
      rw [cs_f__law_deed]
      refine pur_run ?_
      unfold b_f__law_deed
      exact beg (pTake (pOrB (pEqI pV pC rfl) (fun _ => pLtI pV pC rfl) (by simp [c1])) (pRet (pCall (pK pV (pK (pAdd pV pC) (pK pV pN))) hd)))
    have s1 : PurB [] (bOr (dTest (dBin oEq (dVar 2) (dC (.int 0)))) (dTest (dBin oLt (dVar 5) (dC (.int 2))))) [some (scr ns), some (D.int t), some (D.int ((deep : Int) + 1)), some (encK nm os hs), some (encRs rs), some (.int w), none, none, none, none, none] false :=
      pOrB (pEqI pV pC rfl) (fun _ => pLtI pV pC rfl) (by simp [c1]; omega)
    by_cases c2 : w < 4 ∧ rs ≠ []
    · obtain ⟨d, hd, ho, hp⟩ := call_sem n deep ns t (kn := encK nm os hs) (K := nm ++ os ++ hs) ht hl c2.2 R.len fun t' ht' => ih (n + 3) t' nm os hs (by omega) ht' k (by omega) (by omega)
      refine ⟨d, ?_, ho, hp⟩
      rw [cs_f__law_deed]
      refine pur_run ?_
      unfold b_f__law_deed
      exact beg (pSkip s1 (pTake (pAndB (pLtI pV pC rfl) (fun _ => pB (pNe_rules R.ok R.dep pV)) (by simp [c2.1, c2.2])) (pRet (pCall (pK pV (pK pV (pK pV (pK pV (pK pV pN))))) hd))))
    have s2 : PurB [] (bAnd (dTest (dBin oLt (dVar 5) (dC (.int 4)))) (dTest (dBin oNe (dVar 4) (dTup dNil)))) [some (scr ns), some (D.int t), some (D.int ((deep : Int) + 1)), some (encK nm os hs), some (encRs rs), some (.int w), none, none, none, none, none] false :=
      pAndB (pLtI pV pC rfl) (fun _ => pB (pNe_rules R.ok R.dep pV)) (by
        by_cases q2 : rs = []
        · simp [q2]
        · have q : ¬ w < 4 := fun z => c2 ⟨z, q2⟩
          simp [q])
    obtain ⟨d1, hd1s, ho1, hp1⟩ := sub (t * 3 + 7) nm os (by omega) k (by omega) (by omega)
    have beg2 : ∀ {d : D} {rest : SDen}, PurS [] rest [some (scr ns), some (D.int t), some (D.int ((deep : Int) + 1)), some (encK nm os hs), some (encRs rs), some (.int w), some (enc d1), none, none, none, none] (.rt d) →
        PurS [] (sSeq (sAsg (dCall 5 (csem (n + 4) .f__law_deed) (dCons (dVar 0) (dCons (dBin oAdd (dBin oMul (dVar 1) (dC (.int 3))) (dC (.int 7))) (dCons (dBin oSub (dVar 2) (dC (.int 1))) (dCons (dVar 3) (dCons (dVar 4) dNil)))))) (gN 6)) rest)
          [some (scr ns), some (D.int t), some (D.int ((deep : Int) + 1)), some (encK nm os hs), some (encRs rs), some (.int w), none, none, none, none, none] (.rt d) := fun h => by
      refine pLet (pCall (pK pV (pK (pAdd (pMulR pV pC) pC) (pK (pSub pV pC) (pK pV (pK pV pN))))) ?_) (fun S => rfl) h
      rw [hd1]
      exact hd1s
    have t3 : (0 : Int) ≤ t + 3 := by omega
    by_cases c3 : w < 6
    · have hne : shv os ≠ [] := by simp [shv, abcd]
      obtain ⟨v, hv, hp⟩ := drw_pick ns (t + 3) hne
      have hm : 0 < ((shv os).length : Int) := by have := List.length_pos_iff.mpr hne; omega
      refine ⟨.wr v d1, ?_, ⟨shv_ok k hv, ho1⟩, by simp only [dep]; omega⟩
      rw [cs_f__law_deed]
      refine pur_run ?_
      unfold b_f__law_deed
      refine beg (pSkip s1 (pSkip s2 (beg2 (pTake (pLtI pV pC (by simp [c3])) (pLet (pShv k.lo (pKn1 pV)) (fun _ => rfl) (pRet (pT (pK pC (pK ?_ (pK pV pN))))))))))
      exact pGetT pV (pDrawn hl t3 hm pV (pAdd pV pC) (pLenT pV)) hp
    by_cases c4 : w = 6
    · refine ⟨.say d1, ?_, ho1, by simp only [dep]; omega⟩
      rw [cs_f__law_deed]
      refine pur_run ?_
      unfold b_f__law_deed
      exact beg (pSkip s1 (pSkip s2 (beg2 (pSkip (pLtI pV pC (by simp [c3])) (pTake (pEqI pV pC (by simp [c4])) (pRet (pT (pK pC (pK pV pN)))))))))
    by_cases c5 : w = 7
    · obtain ⟨v, hv, hp⟩ := drw_pick ns (t + 3) (l := (["x", "y", "x1"] : List Str)) (by simp)
      have hk : kd v = 1 := by
        have : ∀ y ∈ (["x", "y", "x1"] : List Str), kd y = 1 := by decide +kernel
        exact this v hv
      obtain ⟨d2, hd2, ho2, hp2⟩ := sub (t * 3 + 23) (nm ++ [v]) os (by omega) (k.nam hk (by omega)) (by simp; omega) (by omega)
      refine ⟨.lt v d1 d2, ?_, ⟨hk, ho1, okD_mono (fun _ _ h => h) d2 (fun y hy => ?_) ho2⟩, by simp only [dep]; omega⟩
      · rw [cs_f__law_deed]
        refine pur_run ?_
        unfold b_f__law_deed
        refine beg (pSkip s1 (pSkip s2 (beg2 (pSkip (pLtI pV pC (by simp [c3])) (pSkip (pEqI pV pC (by simp [c4])) (pTake (pEqI pV pC (by simp [c5])) (pLet (pPick (pK pC (pK pC (pK pC pN))) (pDrawn hl t3 (by decide) pV (pAdd pV pC) pC) (atI_map (f := D.str) hp)) (fun _ => rfl) (pRet (pT (pK pC (pK pV (pK pV (pK ?_ pN)))))))))))))
        refine pCall (pK pV (pK (pAdd (pMulR pV pC) pC) (pK (pSub pV pC) (pK ?_ (pK pV pN))))) (d := enc d2) (ds := [scr ns, .int (t * 3 + 23), .int ((deep : Int) + 1 - 1), encK (nm ++ [v]) os hs, encRs rs]) (by rw [hd1]; exact hd2)
        refine pO (pT (pK (pKeyApp k.ln (pKn0 pV) pV) pN)) (pSl0 pV pC) fun S => ?_
        rfl
      · simp only [List.mem_append, List.mem_cons, List.not_mem_nil, or_false] at hy ⊢
        rcases hy with ((q | q) | q) | q
        · exact .inr (.inl (.inl q))
        · exact .inl q
        · exact .inr (.inl (.inr q))
        · exact .inr (.inr q)
    by_cases c6 : w = 8
    · obtain ⟨v, hv, hp⟩ := drw_pick ns (t + 3) (l := (["p", "q"] : List Str)) (by simp)
      have hk : kd v = 2 := by
        have : ∀ y ∈ (["p", "q"] : List Str), kd y = 2 := by decide +kernel
        exact this v hv
      obtain ⟨d2, hd2, ho2, hp2⟩ := sub (t * 3 + 23) nm (os ++ [v]) (by omega) (k.ow hk (by omega)) (by omega) (by simp; omega)
      refine ⟨.own v d1 d2, ?_, ⟨hk, ho1, okD_mono (fun _ _ h => h) d2 (fun y hy => ?_) ho2⟩, by simp only [dep]; omega⟩
      · rw [cs_f__law_deed]
        refine pur_run ?_
        unfold b_f__law_deed
        refine beg (pSkip s1 (pSkip s2 (beg2 (pSkip (pLtI pV pC (by simp [c3])) (pSkip (pEqI pV pC (by simp [c4])) (pSkip (pEqI pV pC (by simp [c5])) (pTake (pEqI pV pC (by simp [c6])) (pLet (pPick (pK pC (pK pC pN)) (pDrawn hl t3 (by decide) pV (pAdd pV pC) pC) (atI_map (f := D.str) hp)) (fun _ => rfl) (pLet (pT (pK (pKn0 pV) (pK (pKeyApp k.lo (pKn1 pV) pV) (pK (pKn2 pV) pN)))) (fun _ => rfl) (pRet (pT (pK pC (pK pV (pK pV (pK ?_ pN)))))))))))))))
        exact pCall (pK pV (pK (pAdd (pMulR pV pC) pC) (pK (pSub pV pC) (pK pV (pK pV pN))))) (by rw [hd1]; exact hd2)
      · simp only [List.mem_append, List.mem_cons, List.not_mem_nil, or_false] at hy ⊢
        rcases hy with (q | (q | q)) | q
        · exact .inr (.inl (.inl q))
        · exact .inr (.inl (.inr q))
        · exact .inl q
        · exact .inr (.inr q)
    obtain ⟨d2, hd2, ho2, hp2⟩ := sub (t * 3 + 41) nm os (by omega) k (by omega) (by omega)
    have beg3 : ∀ {d : D} {rest : SDen}, PurS [] rest [some (scr ns), some (D.int t), some (D.int ((deep : Int) + 1)), some (encK nm os hs), some (encRs rs), some (.int w), some (enc d1), none, none, none, some (enc d2)] (.rt d) →
        PurS [] (sSeq (sAsg (dCall 5 (csem (n + 4) .f__law_deed) (dCons (dVar 0) (dCons (dBin oAdd (dBin oMul (dVar 1) (dC (.int 3))) (dC (.int 41))) (dCons (dBin oSub (dVar 2) (dC (.int 1))) (dCons (dVar 3) (dCons (dVar 4) dNil)))))) (gN 10)) rest)
          [some (scr ns), some (D.int t), some (D.int ((deep : Int) + 1)), some (encK nm os hs), some (encRs rs), some (.int w), some (enc d1), none, none, none, none] (.rt d) := fun h => by
      refine pLet (pCall (pK pV (pK (pAdd (pMulR pV pC) pC) (pK (pSub pV pC) (pK pV (pK pV pN))))) ?_) (fun S => rfl) h
      rw [hd1]
      exact hd2
    by_cases c7 : w = 9
    · obtain ⟨d3, hd3, ho3, hp3⟩ := sub (t * 3 + 61) nm os (by omega) k (by omega) (by omega)
      refine ⟨.iff d1 d2 d3, ?_, ⟨ho1, ho2, ho3⟩, by simp only [dep]; omega⟩
      rw [cs_f__law_deed]
      refine pur_run ?_
      unfold b_f__law_deed
      refine beg (pSkip s1 (pSkip s2 (beg2 (pSkip (pLtI pV pC (by simp [c3])) (pSkip (pEqI pV pC (by simp [c4])) (pSkip (pEqI pV pC (by simp [c5])) (pSkip (pEqI pV pC (by simp [c6])) (beg3 (pTake (pEqI pV pC (by simp [c7])) (pRet (pT (pK pC (pK pV (pK pV (pK ?_ pN)))))))))))))))
      exact pCall (pK pV (pK (pAdd (pMulR pV pC) pC) (pK (pSub pV pC) (pK pV (pK pV pN))))) (by rw [hd1]; exact hd3)
    obtain ⟨tw, htw⟩ : ∃ tw : Two, atI ([.tup [.str "then"], .tup [.str "add"], .tup [.str "less"], .tup [.str "loop"], .tup [.str "then"]] : List D) (w - 10) = some (.tup [.str tw.w]) := by
      have : w = 10 ∨ w = 11 ∨ w = 12 ∨ w = 13 ∨ w = 14 := by omega
      rcases this with rfl | rfl | rfl | rfl | rfl
      · exact ⟨.thn, rfl⟩
      · exact ⟨.add, rfl⟩
      · exact ⟨.les, rfl⟩
      · exact ⟨.lop, rfl⟩
      · exact ⟨.thn, rfl⟩
    refine ⟨.two tw d1 d2, ?_, ⟨ho1, ho2⟩, by simp only [dep]; omega⟩
    rw [cs_f__law_deed]
    refine pur_run ?_
    unfold b_f__law_deed
    refine beg (pSkip s1 (pSkip s2 (beg2 (pSkip (pLtI pV pC (by simp [c3])) (pSkip (pEqI pV pC (by simp [c4])) (pSkip (pEqI pV pC (by simp [c5])) (pSkip (pEqI pV pC (by simp [c6])) (beg3 (pSkip (pEqI pV pC (by simp [c7])) (pRet ?_))))))))))
    refine pO (pPick (pK (pT (pK pC pN)) (pK (pT (pK pC pN)) (pK (pT (pK pC pN)) (pK (pT (pK pC pN)) (pK (pT (pK pC pN)) pN))))) (pSub pV pC) htw) (pT (pK pV (pK pV pN))) fun S => ?_
    rfl
end DL
namespace DL
open PySem L2
variable {B : Sto}
def PurL (B : Sto) (a : Den) (ε : Env) (ds : List D) : Prop := ∀ S, B <+: S → ∃ E, a ε S = .ok (.ref (S ++ E).length) (S ++ E ++ [.lst ds])
def PurI (B : Sto) (it : IDen) (ε : Env) (xs : List D) : Prop := ∀ S, B <+: S → ∃ E src, it ε S = .ok src (S ++ E) ∧ ∀ S', S ++ E <+: S' → src S' = some xs
section
variable {it : IDen} {g : GDen} {c : DenB} {e a b : Den} {vs : List Nat} {ε : Env} {xs ys ds : List D} {p : D → Bool} {h : D → D} {src : Src} {m : Nat}
theorem lc_pure (hsrc : ∀ S', B <+: S' → src S' = some xs) (hx : ∀ x ∈ xs, ∃ ε', (∀ S, g x (wipeE ε vs) S = some ε') ∧ PurB B c ε' (p x) ∧ (p x = true → PurE B e ε' (h x))) (hl : xs.length ≤ 1000) :
    ∀ (k i : Nat) (acc : List D) (S : Sto), i + k = xs.length → acc.length ≤ i → B <+: S → ∃ E, lcI src g c e vs ε (k + 1) i acc S = .ok (acc ++ ((xs.drop i).filter p).map h) (S ++ E)
  | 0, i, acc, S, hk, ha, hS => by
    refine ⟨[], ?_⟩
    unfold lcI
    have e1 : xs[i]? = none := List.getElem?_eq_none (by omega)
    have e2 : xs.drop i = [] := List.drop_eq_nil_of_le (by omega)
    simp only [hsrc S hS, e1, e2]
    simp
  | k + 1, i, acc, S, hk, ha, hS => by
    have hi : i < xs.length := by omega
    have e1 : xs[i]? = some xs[i] := List.getElem?_eq_getElem hi
    obtain ⟨ε', hg, hc, he⟩ := hx xs[i] (List.getElem_mem hi)
    obtain ⟨E1, e2⟩ := hc S hS
    have e3 : xs.drop i = xs[i] :: xs.drop (i + 1) := List.drop_eq_getElem_cons hi
    unfold lcI
    simp only [hsrc S hS, e1, hg, e2, e3, noX, x_bind]
    by_cases hp : p xs[i] = true
    · obtain ⟨E2, e4⟩ := he hp (S ++ E1) (pre_app hS)
      obtain ⟨E3, e5⟩ := lc_pure hsrc hx hl k (i + 1) (acc ++ [h xs[i]]) (S ++ E1 ++ E2) (by omega) (by simp; omega) (pre_app (pre_app hS))
      refine ⟨E1 ++ E2 ++ E3, ?_⟩
      rw [if_pos hp, e4]
      simp only [noX, x_bind]
      rw [if_pos (show acc.length < big from Nat.lt_of_lt_of_le (show acc.length < 1001 by omega) (by decide)), e5, List.filter_cons_of_pos hp]
      simp
    · obtain ⟨E3, e5⟩ := lc_pure hsrc hx hl k (i + 1) acc (S ++ E1) (by omega) (by omega) (pre_app hS)
      refine ⟨E1 ++ E3, ?_⟩
      rw [if_neg hp, e5, List.filter_cons_of_neg hp]
      simp
theorem pLc (hi : PurI B it ε xs) (hx : ∀ x ∈ xs, ∃ ε', (∀ S, g x (wipeE ε vs) S = some ε') ∧ PurB B c ε' (p x) ∧ (p x = true → PurE B e ε' (h x))) (hl : xs.length ≤ 1000) : PurL B (dLc it g c e vs) ε ((xs.filter p).map h) := fun S hS => by
  obtain ⟨E, src, e1, hs⟩ := hi S hS
  have up : ∀ ε', (∀ t, PurB B c ε' t → PurB (S ++ E) c ε' t) ∧ ∀ d, PurE B e ε' d → PurE (S ++ E) e ε' d := fun ε' => ⟨fun t q S' hS' => q S' ((pre_app hS).trans hS'), fun d q S' hS' => q S' ((pre_app hS).trans hS')⟩
  obtain ⟨E2, e2⟩ := lc_pure (B := S ++ E) (p := p) (h := h) hs (fun x m => by
    obtain ⟨ε', a, b, k⟩ := hx x m
    exact ⟨ε', a, (up ε').1 _ b, fun q => (up ε').2 _ (k q)⟩) hl xs.length 0 [] (S ++ E) (by omega) (by simp) (List.prefix_refl _)
  refine ⟨E ++ E2, ?_⟩
  unfold dLc
  rw [e1, x_bind]
  simp only [hs (S ++ E) (List.prefix_refl _), e2, x_bind, lcEnd]
  simp
theorem bYes_pure {ε : Env} : PurB B bYes ε true := fun S _ => ⟨[], by simp [bYes]⟩
theorem pLc1 (hi : PurI B it ε xs) (hx : ∀ x ∈ xs, ∃ ε', (∀ S, g x (wipeE ε vs) S = some ε') ∧ PurE B e ε' (h x)) (hl : xs.length ≤ 1000) : PurL B (dLc it g bYes e vs) ε (xs.map h) := by
  have := pLc (p := fun _ => true) (h := h) (c := bYes) hi (fun x m => by
    obtain ⟨ε', a, b⟩ := hx x m
    exact ⟨ε', a, bYes_pure, fun _ => b⟩) hl
  rwa [List.filter_eq_self.mpr (fun _ _ => rfl)] at this
theorem fall_intD : ∀ ns : List Int, fall intD (ns.map D.int) = some ns
  | [] => rfl
  | i :: r => fall_cons rfl (fall_intD r)
theorem pSumL {ns : List Int} (ha : PurL B a ε (ns.map .int)) : PurE B (dFn fSum (dCons a dNil)) ε (.int ns.sum) := fun S hS => by
  obtain ⟨E, e1⟩ := ha S hS
  refine ⟨E ++ [.lst (ns.map .int)], ?_⟩
  have q : litems (S ++ E ++ [O.lst (ns.map .int)]) (.ref (S ++ E).length) = some (ns.map .int) := by
    unfold litems
    simp only [getLast_app]
  simp only [x_Fn, x_Cons, e1, x_bind, x_Nil, fSum, fLst, q, fall_intD]
  simp
theorem piTup (ha : PurE B a ε (.tup xs)) : PurI B (iAny a) ε xs := fun S hS => by
  obtain ⟨E, e1⟩ := ha S hS
  exact ⟨E, _, by unfold iAny; rw [e1]; rfl, fun _ _ => rfl⟩
theorem piZip (ha : PurE B a ε (.tup xs)) (hb : PurE B b ε (.tup ys)) (hu : (pairs xs ys).all unt = true) : PurI B (iZipD a b) ε (pairs xs ys) := fun S hS => by
  obtain ⟨E, e1⟩ := ha S hS
  obtain ⟨E2, e2⟩ := hb (S ++ E) (pre_app hS)
  exact ⟨E ++ E2, _, by unfold iZipD; rw [e1, x_bind, e2, x_bind]; simp [hu], fun _ _ => rfl⟩
theorem pLetAt {a : Den} {g : GDen} {w : SDen} {ε : Env} {fl : Fl} (h : ∀ S, B <+: S → ∃ E d ε', a ε S = .ok d (S ++ E) ∧ (∀ S, g d ε S = some ε') ∧ PurS (S ++ E) w ε' fl) : PurS B (sSeq (sAsg a g) w) ε fl := fun S hS => by
  obtain ⟨E, d, ε', e1, hg, hw⟩ := h S hS
  obtain ⟨E2, e2⟩ := hw (S ++ E) (List.prefix_refl _)
  exact ⟨E ++ E2, by simp [e1, hg, e2]⟩
theorem PurE.up {B' : Sto} {d : D} (h : PurE B a ε d) (hB : B <+: B') : PurE B' a ε d := fun S hS => h S (hB.trans hS)
theorem PurR.up {B' : Sto} {f : Sto → R D} {d : D} (h : PurR B f d) (hB : B <+: B') : PurR B' f d := fun S hS => h S (hB.trans hS)
end
end DL
namespace DL
open PySem L2
variable {B : Sto}
theorem szs_take (rs : List Rule) (i : Nat) : szs (rs.take i) = (szs rs).take i := by unfold szs; rw [List.map_take]
theorem okRs_snoc {rs : List Rule} {r : Rule} (h : okRs rs) (hr : okRl (szs rs) r) : okRs (rs ++ [r]) := fun i r' hi => by
  by_cases hl : i < rs.length
  · rw [List.getElem?_append_left hl] at hi
    rw [List.take_append_of_le_length (by omega)]
    exact h i r' hi
  · have e : i = rs.length := by
      have := (List.getElem?_eq_some_iff.mp hi).1
      simp at this
      omega
    subst e
    rw [List.getElem?_append_right (Nat.le_refl _), Nat.sub_self] at hi
    cases hi
    rw [List.take_left]
    exact hr
structure RsLaw (rs : List Rule) : Prop where
  r : RsOk rs
  len : rs.length ≤ 2
  dep : ∀ r ∈ rs, dep r.b ≤ 2
  sz : ∀ r ∈ rs, r.ns.length ≤ 2 ∧ r.hs.length ≤ 2
theorem kn_nil : KnOk [] [] [] := ⟨by simp, by simp, by simp, by simp, by simp, by simp⟩
theorem tstr_get {xss : List (List Str)} {i : Int} {xs : List Str} (h : atI xss i = some xs) : atI (xss.map tstr) i = some (tstr xs) := atI_map h
theorem rules_sem (n : Nat) (ns : List Int) (t : Int) (ht : 0 ≤ t) (hl : ns.length ≤ 63) : ∃ rs, Pur (csem (n + 10) .f__law_rules [scr ns, .int t]) (encRs rs) ∧ RsLaw rs := by
  have h0 := drw_lo ns t (m := 3) (by decide)
  have h1 := drw_hi ns t (m := 3) (by decide)
  have hm : ((drw ns t 3).toNat : Int) = drw ns t 3 := by omega
  have hm2 : (drw ns t 3).toNat ≤ 2 := by omega
  generalize hM : (drw ns t 3).toNat = m at hm hm2
  rw [cs_f__law_rules]
  let body : SDen := (sSeq (sAsg (dBin oGet (dLst (dCons (dTup dNil) (dCons (dTup (dCons (dC (.str "x")) dNil)) (dCons (dTup (dCons (dC (.str "y")) (dCons (dC (.str "x")) dNil))) dNil)))) (dCall 3 (csem (n + 9) .f__law_drawn) (dCons (dVar 0) (dCons (dBin oAdd (dBin oAdd (dVar 1) (dC (.int 1))) (dBin oMul (dC (.int 5)) (dVar 3))) (dCons (dC (.int 3)) dNil))))) (gN 4))
    (sSeq (sAsg (dBin oGet (dLst (dCons (dTup dNil) (dCons (dTup (dCons (dC (.str "f")) dNil)) (dCons (dTup (dCons (dC (.str "f")) (dCons (dC (.str "g1")) dNil))) dNil)))) (dCall 3 (csem (n + 9) .f__law_drawn) (dCons (dVar 0) (dCons (dBin oAdd (dBin oAdd (dVar 1) (dC (.int 2))) (dBin oMul (dC (.int 5)) (dVar 3))) (dCons (dC (.int 3)) dNil))))) (gN 5))
    (sSeq (sAsg (dCall 5 (csem (n + 9) .f__law_deed) (dCons (dVar 0) (dCons (dBin oAdd (dBin oAdd (dVar 1) (dC (.int 20))) (dBin oMul (dC (.int 7)) (dVar 3))) (dCons (dC (.int 2)) (dCons (dTup (dCons (dVar 4) (dCons (dTup dNil) (dCons (dVar 5) dNil)))) (dCons (dVar 2) dNil)))))) (gN 6))
    (sAsg (dBin oAdd (dVar 2) (dTup (dCons (dTup (dCons (dVar 4) (dCons (dVar 5) (dCons (dVar 6) dNil)))) dNil))) (gN 2)))))
  have loop : ∀ (c k : Nat) (rs : List Rule) (v3 v4 v5 v6 : Option D), k + c = m → rs.length = k → RsLaw rs → ∃ rs' w3 w4 w5 w6, RsLaw rs' ∧ ∀ S, ∃ E, forI (fun _ => some (nums 0 m)) (gN 3) body (c + 1) k [some (scr ns), some (.int t), some (encRs rs), v3, v4, v5, v6] S = .ok (.nx [some (scr ns), some (.int t), some (encRs rs'), w3, w4, w5, w6]) (S ++ E) := by
    intro c
    induction c with
    | zero =>
      intro k rs v3 v4 v5 v6 hk hlen hrs
      refine ⟨rs, v3, v4, v5, v6, hrs, fun S => ⟨[], ?_⟩⟩
      unfold forI
      simp only [nums_get, if_neg (show ¬ k < m by omega)]
      simp
    | succ c ih =>
      intro k rs v3 v4 v5 v6 hk hlen hrs
      obtain ⟨nm, hnm, hnp⟩ := drw_pick ns (t + 1 + 5 * (k : Int)) (l := ([[], ["x"], ["y", "x"]] : List (List Str))) (by simp)
      obtain ⟨hd, hhd, hhp⟩ := drw_pick ns (t + 2 + 5 * (k : Int)) (l := ([[], ["f"], ["f", "g1"]] : List (List Str))) (by simp)
      have hn1 : ∀ l ∈ ([[], ["x"], ["y", "x"]] : List (List Str)), (∀ x ∈ l, kd x = 1) ∧ l.Nodup ∧ l.length ≤ 2 := by decide +kernel
      have hh1 : ∀ l ∈ ([[], ["f"], ["f", "g1"]] : List (List Str)), (∀ x ∈ l, kd x = 3) ∧ l.Nodup ∧ l.length ≤ 2 := by decide +kernel
      obtain ⟨a1, a2, a3⟩ := hn1 nm hnm
      obtain ⟨b1, b2, b3⟩ := hh1 hd hhd
      have kn : KnOk nm [] hd := ⟨a1, by simp, b1, by omega, by simp, by omega⟩
      obtain ⟨d, hds, hdo, hdd⟩ := deed_sem ns hl hrs.r 2 (n + 9) (t + 20 + 7 * (k : Int)) nm [] hd (by omega) (by omega) kn (by omega) (by simp)
      have okr : okRl (szs rs) ⟨nm, hd, d⟩ := ⟨a1, b1, a2, b2, by simpa using hdo⟩
      have hrs' : RsLaw (rs ++ [⟨nm, hd, d⟩]) := by
        refine ⟨⟨okRs_snoc hrs.r.ok okr, fun r hr => ?_, fun r hr => ?_⟩, by simp; omega, fun r hr => ?_, fun r hr => ?_⟩
        all_goals rcases List.mem_append.mp hr with q | q
        · exact hrs.r.dep r q
        · rw [List.mem_singleton.mp q]; exact Nat.le_trans hdd (by decide)
        · exact hrs.r.len r q
        · rw [List.mem_singleton.mp q]; exact ⟨by show nm.length ≤ 100; omega, by show hd.length ≤ 100; omega⟩
        · exact hrs.dep r q
        · rw [List.mem_singleton.mp q]; exact hdd
        · exact hrs.sz r q
        · rw [List.mem_singleton.mp q]; exact ⟨a3, b3⟩
      obtain ⟨rs', w3, w4, w5, w6, hr', lp⟩ := ih (k + 1) (rs ++ [⟨nm, hd, d⟩]) (some (.int k)) (some (tstr nm)) (some (tstr hd)) (some (enc d)) (by omega) (by simp; omega) hrs'
      refine ⟨rs', w3, w4, w5, w6, hr', fun S => ?_⟩
      have t1 : (0 : Int) ≤ t + 1 + 5 * (k : Int) := by omega
      have t2 : (0 : Int) ≤ t + 2 + 5 * (k : Int) := by omega
      have bs : PurS [] body [some (scr ns), some (.int t), some (encRs rs), some (.int k), v4, v5, v6] (.nx [some (scr ns), some (.int t), some (encRs (rs ++ [⟨nm, hd, d⟩])), some (.int k), some (tstr nm), some (tstr hd), some (enc d)]) := by
        refine pLet (pPick (pK (pT pN) (pK (pT (pK pC pN)) (pK (pT (pK pC (pK pC pN))) pN))) (pDrawn hl t1 (by decide) pV (pAdd (pAdd pV pC) (pMulL pC pV)) pC) (tstr_get hnp)) (fun _ => rfl) ?_
        refine pLet (pPick (pK (pT pN) (pK (pT (pK pC pN)) (pK (pT (pK pC (pK pC pN))) pN))) (pDrawn hl t2 (by decide) pV (pAdd (pAdd pV pC) (pMulL pC pV)) pC) (tstr_get hhp)) (fun _ => rfl) ?_
        refine pLet (pCall (pK pV (pK (pAdd (pAdd pV pC) (pMulL pC pV)) (pK pC (pK (pT (pK pV (pK (pT pN) (pK pV pN)))) (pK pV pN))))) hds) (fun _ => rfl) ?_
        refine pAsg (pO pV (pT (pK (pT (pK pV (pK pV (pK pV pN)))) pN)) fun S => ?_) (fun _ => rfl)
        unfold encRs oAdd
        simp only [List.length_map, List.length_cons, List.length_nil]
        rw [if_pos (Nat.le_trans (show rs.length + (0 + 1) ≤ 1000 by omega) (by decide)), List.map_append]
        rfl
      obtain ⟨E1, e1⟩ := bs S List.nil_prefix
      obtain ⟨E2, e2⟩ := lp (S ++ E1)
      refine ⟨E1 ++ E2, ?_⟩
      unfold forI
      simp only [nums_get, if_pos (show k < m by omega)]
      show (match body [some (scr ns), some (.int t), some (encRs rs), some (.int k), v4, v5, v6] S with
        | .ok (.nx ε') S' => forI (fun _ => some (nums 0 m)) (gN 3) body (c + 1) (k + 1) ε' S'
        | .ok (.ct ε') S' => forI (fun _ => some (nums 0 m)) (gN 3) body (c + 1) (k + 1) ε' S'
        | .ok (.bk ε') S' => .ok (.nx ε') S'
        | r => r) = _
      rw [e1]
      show forI (fun _ => some (nums 0 m)) (gN 3) body (c + 1) (k + 1) _ (S ++ E1) = _
      rw [e2]
      simp
  obtain ⟨rs', w3, w4, w5, w6, hr', lp⟩ := loop m 0 [] none none none none (by omega) rfl ⟨⟨fun i r h => by simp at h, by simp, by simp⟩, by simp, by simp, by simp⟩
  refine ⟨rs', pur_run ?_, hr'⟩
  unfold b_f__law_rules
  refine pLet (pT pN) (fun _ => rfl) (pSeq (ε' := [some (scr ns), some (.int t), some (encRs rs'), w3, w4, w5, w6]) (fun S _ => ?_) (pRet pV))
  have it : PurE [] (dCall 3 (csem (n + 9) .f__law_drawn) (dCons (dVar 0) (dCons (dVar 1) (dCons (dC (.int 3)) dNil)))) [some (scr ns), some (.int t), some (encRs []), none, none, none, none] (.int m) := by
    rw [hm]
    exact pDrawn hl ht (by decide) pV pV pC
  obtain ⟨E, e1⟩ := it S List.nil_prefix
  obtain ⟨E2, e2⟩ := lp (S ++ E)
  refine ⟨E ++ E2, ?_⟩
  have e3 := iRange1_of (okR_of (by omega) (by omega)) e1
  rw [Int.toNat_natCast] at e3
  have := sFor_of e3 e2
  rw [← List.append_assoc]
  exact this
end DL
namespace DL
open PySem L2
structure Stt where
  kept : Str → Int
  asked : List Int
  many : Nat
  spoken : List Int
  marks : List D
  cells : List Int
abbrev Thk := Stt → Int × Stt
def markA (v : Int) : D := .tup [.str "ask", .int v]
def markR (x : Str) (v : Int) : D := .tup [.str "read", .str x, .int v]
def markW (x : Str) (v : Int) : D := .tup [.str "write", .str x, .int v]
def markS (v : Int) : D := .tup [.str "say", .int v]
def tAskd : Thk := fun st => let a := (st.asked[st.many]?).getD 0; (a, { st with many := st.many + 1, marks := st.marks ++ [markA a] })
def tRead (x : Str) : Thk := fun st => (st.kept x, { st with marks := st.marks ++ [markR x (st.kept x)] })
def tWrt (x : Str) (v : Int) : Thk := fun st => (v, { st with kept := fun y => if y = x then v else st.kept y, marks := st.marks ++ [markW x v] })
def tSayd (v : Int) : Thk := fun st => (v, { st with spoken := st.spoken ++ [v], marks := st.marks ++ [markS v] })
structure Pl where
  run : Nat
  w : Nat
  kept : Nat
  spoken : Nat
  marks : Nat
  cells : Nat
  asked : Nat
  ans : Nat
  rules : D
def runF (L : Pl) : List (Str × D) := [("rules", L.rules), ("world", .ref L.w), ("answers", .ref L.ans), ("place", .int 0), ("wanted", .non), ("cells", .ref L.cells)]
def wldF (L : Pl) (many : Nat) : List (Str × D) := [("kept", .ref L.kept), ("asked", .ref L.asked), ("many", .int many), ("spoken", .ref L.spoken), ("marks", .ref L.marks)]
def keptD (k : Str → Int) : List (Key × D) := abcd.map fun x => (.inr x, .int (k x))
def Pl.mut (L : Pl) : List Nat := [L.w, L.kept, L.spoken, L.marks, L.cells]
structure Rep (L : Pl) (S : Sto) (st : Stt) : Prop where
  run : S[L.run]? = some (.ins "Run" (runF L))
  w : S[L.w]? = some (.ins "World" (wldF L st.many))
  kept : S[L.kept]? = some (.dct (keptD st.kept))
  spoken : S[L.spoken]? = some (.lst (st.spoken.map .int))
  marks : S[L.marks]? = some (.lst st.marks)
  cells : S[L.cells]? = some (.lst (st.cells.map .int))
  asked : S[L.asked]? = some (.lst (st.asked.map .int))
structure Frm (L : Pl) (S S' : Sto) : Prop where
  len : S.length ≤ S'.length
  keep : ∀ n o, n ∉ L.mut → S[n]? = some o → S'[n]? = some o
theorem Frm.refl {L : Pl} {S : Sto} : Frm L S S := ⟨Nat.le_refl _, fun _ _ _ h => h⟩
theorem Frm.trans {L : Pl} {S S' S'' : Sto} (a : Frm L S S') (b : Frm L S' S'') : Frm L S S'' := ⟨Nat.le_trans a.len b.len, fun n o h e => b.keep n o h (a.keep n o h e)⟩
theorem Frm.set {L : Pl} {S : Sto} {n : Nat} {o : O} (h : n ∈ L.mut) : Frm L S (S.set n o) := ⟨by simp, fun m u hm e => by
  have : n ≠ m := fun q => hm (q ▸ h)
  rw [List.getElem?_set_ne this]
  exact e⟩
theorem Frm.app {L : Pl} {S E : Sto} : Frm L S (S ++ E) := ⟨by simp, fun n o _ e => by
  rw [List.getElem?_append_left (List.getElem?_eq_some_iff.mp e).1]
  exact e⟩
structure Apart (L : Pl) : Prop where
  nd : L.mut.Nodup
  run : L.run ∉ L.mut
  asked : L.asked ∉ L.mut
structure Fits (st : Stt) : Prop where
  m : st.marks.length < 100000
  s : st.spoken.length < 100000
  c : st.cells.length < 100000
structure Lst (a b : Stt) : Prop where
  m : a.marks.length ≤ b.marks.length
  s : a.spoken.length ≤ b.spoken.length
  c : a.cells.length ≤ b.cells.length
theorem Lst.refl {a : Stt} : Lst a a := ⟨Nat.le_refl _, Nat.le_refl _, Nat.le_refl _⟩
theorem Lst.trans {a b c : Stt} (x : Lst a b) (y : Lst b c) : Lst a c := ⟨Nat.le_trans x.m y.m, Nat.le_trans x.s y.s, Nat.le_trans x.c y.c⟩
theorem Fits.of {a b : Stt} (x : Lst a b) (f : Fits b) : Fits a := ⟨Nat.lt_of_le_of_lt x.m f.m, Nat.lt_of_le_of_lt x.s f.s, Nat.lt_of_le_of_lt x.c f.c⟩
def ZE (a : Den) (ε : Env) (d : D) : Prop := ∀ S, a ε S = .ok d S
def ZB (a : DenB) (ε : Env) (b : Bool) : Prop := ∀ S, a ε S = .ok b S
section
variable {o : Op} {a b : Den} {ba bb : DenB} {ε ε' : Env} {d e x : D} {i : Nat} {u v w : SDen} {g : GDen} {ds : List D} {t : Bool} {p q : Str} {S : Sto}
theorem zC : ZE (dC d) ε d := fun _ => rfl
theorem zV (h : ε[i]? = some (some d) := by rfl) : ZE (dVar i) ε d := fun _ => x_Var h
theorem zG {j : Int} (ha : ZE a ε (.tup ds)) (h : atI ds j = some x := by rfl) : ZE (dBin oGet a (dC (.int j))) ε x := fun S => by simp [ha S, h]
theorem zEqS (ha : ZE a ε (.str p)) (h : decide (p = q) = t := by decide +kernel) : ZB (dTest (dBin oEq a (dC (.str q)))) ε t := fun S => by
  refine x_Test ?_
  rw [x_Bin, ha S, x_bind, x_C, x_bind, x_eqS, h]
theorem zIn {qs : List Str} {r : DenA} (ha : ZE a ε (.str p)) (hr : ∀ S, r ε S = .ok (qs.map D.str) S) (hl : qs.length ≤ 1000 := by simp) (h : decide (p ∈ qs) = t := by decide +kernel) : ZB (dTest (dBin oIn a (dTup r))) ε t := fun S => by
  refine x_Test ?_
  have e : inD S (.str p) (.tup (qs.map D.str)) = some (decide (p ∈ qs)) := by
    unfold inD
    simp only [items_tup]
    rw [if_pos (show flatD (.str p) = true ∧ (qs.map D.str).all flatD = true from ⟨rfl, by rw [List.all_map]; exact List.all_eq_true.mpr fun _ _ => rfl⟩), List.any_map]
    congr 1
    rw [Bool.eq_iff_iff, List.any_eq_true, decide_eq_true_iff]
    constructor
    · rintro ⟨y, hy, e⟩
      have : y = p := by simpa [eqF] using e
      rw [← this]
      exact hy
    · intro hy
      exact ⟨p, hy, by simp [eqF]⟩
  rw [x_Bin, ha S, x_bind, x_Tup, hr S, x_bind, x_mkTup (by simpa using hl), x_bind]
  unfold oIn
  rw [e, h]
end
section
variable {o : Op} {a b : Den} {ba bb : DenB} {ε ε' : Env} {d e x : D} {i : Nat} {u v w : SDen} {g : GDen} {ds : List D} {t : Bool} {p q : Str} {S S1 S2 : Sto} {r : R Fl} {rd : R D} {ar : DenA} {f c m : Str} {n np nN : Nat} {fs : List (Str × D)} {F : Fn}
theorem eZ (h : ZE a ε d) : a ε S = .ok d S := h S
theorem eZB (h : ZB ba ε t) : ba ε S = .ok t S := h S
theorem run_rt {b : SDen} (h : b (ds.map some ++ List.replicate (nN - np) none) S = .ok (.rt d) S1) (hl : ds.length = np := by rfl) : runFn np nN b ds S = .ok d S1 := by rw [runFn_fin hl, h]; rfl
theorem run_nx {b : SDen} (h : b (ds.map some ++ List.replicate (nN - np) none) S = .ok (.nx ε) S1) (hl : ds.length = np := by rfl) : runFn np nN b ds S = .ok .non S1 := by rw [runFn_fin hl, h]; rfl
theorem eLet (ha : a ε S = .ok d S1) (k : w ε' S1 = r) (hg : ∀ S, g d ε S = some ε' := by intro _; rfl) : sSeq (sAsg a g) w ε S = r := by
  rw [x_Seq, x_Asg, ha, x_sE]
  simp only [hg, x_sN]
  exact k
theorem eAsg (ha : a ε S = .ok d S1) (hg : ∀ S, g d ε S = some ε' := by intro _; rfl) : sAsg a g ε S = .ok (.nx ε') S1 := by
  rw [x_Asg, ha, x_sE]
  simp only [hg]
theorem eSkip (h : ba ε S = .ok false S1) (k : w ε S1 = r) : sSeq (sIf ba u sNil) w ε S = r := by
  rw [x_Seq, x_sIf, h, x_sE, if_neg Bool.false_ne_true, x_sNil, x_sN]
  exact k
theorem eTake (h : ba ε S = .ok true S1) (k : u ε S1 = .ok (.rt d) S2) : sSeq (sIf ba u v) w ε S = .ok (.rt d) S2 := by
  rw [x_Seq, x_sIf, h, x_sE, if_pos rfl, k, x_sNr]
theorem eIfT (h : ba ε S = .ok true S1) (k : u ε S1 = r) : sIf ba u v ε S = r := by
  rw [x_sIf, h, x_sE, if_pos rfl]
  exact k
theorem eIfF (h : ba ε S = .ok false S1) (k : v ε S1 = r) : sIf ba u v ε S = r := by
  rw [x_sIf, h, x_sE, if_neg Bool.false_ne_true]
  exact k
theorem eSeq (h : u ε S = .ok (.nx ε') S1) (k : w ε' S1 = r) : sSeq u w ε S = r := by
  rw [x_Seq, h, x_sN]
  exact k
theorem eRet (h : a ε S = .ok d S1) : sRet a ε S = .ok (.rt d) S1 := by rw [x_Ret, h]; rfl
theorem eExpr (h : a ε S = .ok d S1) : sExpr a ε S = .ok (.nx ε) S1 := by rw [x_Expr, h]; rfl
theorem eBin (ha : a ε S = .ok d S1) (hb : b ε S1 = .ok e S2) (k : o d e S2 = rd) : dBin o a b ε S = rd := by
  rw [x_Bin, ha, x_bind, hb, x_bind]
  exact k
theorem eTest (ha : a ε S = .ok (.bl t) S1) : dTest a ε S = .ok t S1 := by unfold dTest; rw [ha]; rfl
theorem eCond (ha : ba ε S = .ok t S1) (k : (if t = true then a ε S1 else b ε S1) = rd) : dIf ba a b ε S = rd := by
  rw [x_If, ha, x_bind]
  exact k
theorem eNeg {j : Int} (ha : a ε S = .ok (.int j) S1) : dNeg a ε S = .ok (.int (-j)) S1 := by unfold dNeg; rw [ha]; rfl
theorem eNil : dNil ε S = .ok [] S := rfl
theorem eCons (ha : a ε S = .ok d S1) (hr : ar ε S1 = .ok ds S2) : dCons a ar ε S = .ok (d :: ds) S2 := by
  rw [x_Cons, ha, x_bind, hr, x_bind]
theorem eTup (hr : ar ε S = .ok ds S1) (h : ds.length ≤ 1000 := by simp) : dTup ar ε S = .ok (.tup ds) S1 := by
  rw [x_Tup, hr, x_bind, x_mkTup h]
theorem eCall (hr : ar ε S = .ok ds S1) (k : F ds S1 = rd) (h : ds.length = n := by rfl) : dCall n F ar ε S = rd := by
  rw [x_Call, hr, x_bind, if_pos h]
  exact k
theorem eFn (hr : ar ε S = .ok ds S1) (k : F ds S1 = rd) : dFn F ar ε S = rd := by
  rw [x_Fn, hr, x_bind]
  exact k
theorem eFld (ha : a ε S = .ok (.ref n) S1) (hn : S1[n]? = some (.ins c fs)) (hf : fs.lookup f = some x) : dFld f a ε S = .ok x S1 := by
  unfold dFld
  rw [ha, x_bind]
  simp only [insAt, hn, hf]
theorem eSetF (ha : a ε S = .ok x S1) (hb : b ε S1 = .ok (.ref n) S2) (hn : S2[n]? = some (.ins c fs)) (hl : fs.length < 1000) : sFldD f a b ε S = .ok (.nx ε) (S2.set n (.ins c (putFD f x fs))) := by
  unfold sFldD
  rw [ha, x_sE, hb, x_sE]
  simp only [insAt, hn]
  rw [if_pos hl]
theorem eApp (ha : a ε S = .ok (.ref n) S) (hn : S[n]? = some (.lst ds)) (hb : b ε S = .ok x S) (hl : ds.length < big) : dAppend a b ε S = .ok .non (S.set n (.lst (ds ++ [x]))) := by
  unfold dAppend
  rw [ha, x_bind]
  simp only [lstAt, hn, hb, x_bind]
  rw [if_pos hl]
theorem eMeth (ha : a ε S = .ok (.ref n) S1) (hn : S1[n]? = some (.ins c fs)) (hf : fs.lookup m = none) (hr : ar ε S1 = .ok ds S2) (k : F (.ref n :: ds) S2 = rd) (hl : ds.length + 1 = np := by rfl) : dMeth c m np F a ar ε S = rd := by
  unfold dMeth
  rw [ha, x_bind]
  simp only [insAt, hn]
  rw [if_pos (by simp [hf]), hr, x_bind, if_pos hl]
  exact k
theorem eGetD {k : Key} {kvs : List (Key × D)} (hn : S[n]? = some (.dct kvs)) (hk : keyD e = some k) (hv : valD kvs k = some x) : oGet (.ref n) e S = .ok x S := by
  unfold oGet
  simp only [dctAt, hn, hk, hv]
theorem eGetL {j : Int} (hn : S[n]? = some (.lst ds)) (hv : atI ds j = some x) : oGet (.ref n) (.int j) S = .ok x S := x_get (ds := ds) (by simp only [dctAt, hn]) (by simp only [items, hn]) hv
theorem ePutD {k : Key} {kvs : List (Key × D)} (hc : a ε S = .ok x S1) (ho : b ε S1 = .ok (.ref n) S1) {kk : Den} (hk : kk ε S1 = .ok e S1) (hn : S1[n]? = some (.dct kvs)) (hj : keyD e = some k) (hl : kvs.length < big) : sPut b kk a ε S = .ok (.nx ε) (S1.set n (.dct (putD kvs k x))) := by
  unfold sPut
  rw [hc, x_sE, ho, x_sE, hk, x_sE]
  simp only [dctAt, hn, hj]
  rw [if_pos hl]
end
section
variable {L : Pl} {S : Sto} {st : Stt}
theorem big5 {n : Nat} (h : n < 100000) : n < big := Nat.lt_trans h (by decide)
theorem kept_val {k : Str → Int} {x : Str} (hx : x ∈ abcd) : valD (keptD k) (.inr x) = some (.int (k x)) := by
  simp only [abcd, List.mem_cons, List.not_mem_nil, or_false] at hx
  rcases hx with rfl | rfl | rfl | rfl <;> rfl
theorem kept_put {k : Str → Int} {x : Str} {v : Int} (hx : x ∈ abcd) : putD (keptD k) (.inr x) (.int v) = keptD (fun y => if y = x then v else k y) := by
  simp only [abcd, List.mem_cons, List.not_mem_nil, or_false] at hx
  rcases hx with rfl | rfl | rfl | rfl <;> rfl
theorem gset {α : Type} {l : List α} {i j : Nat} {x y : α} (h : l[j]? = some y) (hn : i ≠ j) : (l.set i x)[j]? = some y := by rw [List.getElem?_set_ne hn]; exact h
theorem gsame {α : Type} {l : List α} {i : Nat} {x y : α} (h : l[i]? = some y) : (l.set i x)[i]? = some x := by
  rw [List.getElem?_set_self (List.getElem?_eq_some_iff.mp h).1]
structure Nes (L : Pl) : Prop where
  a : L.w ≠ L.kept
  b : L.w ≠ L.spoken
  c : L.w ≠ L.marks
  d : L.w ≠ L.cells
  e : L.kept ≠ L.spoken
  f : L.kept ≠ L.marks
  g : L.kept ≠ L.cells
  h : L.spoken ≠ L.marks
  i : L.spoken ≠ L.cells
  j : L.marks ≠ L.cells
  ra : L.w ≠ L.run
  rb : L.kept ≠ L.run
  rc : L.spoken ≠ L.run
  rd : L.marks ≠ L.run
  re : L.cells ≠ L.run
  qa : L.w ≠ L.asked
  qb : L.kept ≠ L.asked
  qc : L.spoken ≠ L.asked
  qd : L.marks ≠ L.asked
  qe : L.cells ≠ L.asked
theorem Apart.nes (ap : Apart L) : Nes L := by
  have nd := ap.nd
  have nr := ap.run
  have na := ap.asked
  simp only [Pl.mut, List.nodup_cons, List.mem_cons, List.not_mem_nil, or_false, not_or] at nd nr na
  obtain ⟨⟨a, b, c, d⟩, ⟨e, f, g⟩, ⟨h, i⟩, j, _⟩ := nd
  obtain ⟨r1, r2, r3, r4, r5⟩ := nr
  obtain ⟨q1, q2, q3, q4, q5⟩ := na
  exact ⟨a, b, c, d, e, f, g, h, i, j, Ne.symm r1, Ne.symm r2, Ne.symm r3, Ne.symm r4, Ne.symm r5, Ne.symm q1, Ne.symm q2, Ne.symm q3, Ne.symm q4, Ne.symm q5⟩
theorem Rep.setMarks (R : Rep L S st) (N : Nes L) (ms : List D) : Rep L (S.set L.marks (.lst ms)) { st with marks := ms } :=
  ⟨gset R.run N.rd, gset R.w N.c.symm, gset R.kept N.f.symm, gset R.spoken N.h.symm, gsame R.marks, gset R.cells N.j, gset R.asked N.qd⟩
theorem Rep.setSpoken (R : Rep L S st) (N : Nes L) (ms : List Int) : Rep L (S.set L.spoken (.lst (ms.map .int))) { st with spoken := ms } :=
  ⟨gset R.run N.rc, gset R.w N.b.symm, gset R.kept N.e.symm, gsame R.spoken, gset R.marks N.h, gset R.cells N.i, gset R.asked N.qc⟩
theorem Rep.setCells (R : Rep L S st) (N : Nes L) (ms : List Int) : Rep L (S.set L.cells (.lst (ms.map .int))) { st with cells := ms } :=
  ⟨gset R.run N.re, gset R.w N.d.symm, gset R.kept N.g.symm, gset R.spoken N.i.symm, gset R.marks N.j.symm, gsame R.cells, gset R.asked N.qe⟩
theorem Rep.setKept (R : Rep L S st) (N : Nes L) (k : Str → Int) : Rep L (S.set L.kept (.dct (keptD k))) { st with kept := k } :=
  ⟨gset R.run N.rb, gset R.w N.a.symm, gsame R.kept, gset R.spoken N.e, gset R.marks N.f, gset R.cells N.g, gset R.asked N.qb⟩
theorem Rep.setMany (R : Rep L S st) (N : Nes L) (m : Nat) : Rep L (S.set L.w (.ins "World" (wldF L m))) { st with many := m } :=
  ⟨gset R.run N.ra, gsame R.w, gset R.kept N.a, gset R.spoken N.b, gset R.marks N.c, gset R.cells N.d, gset R.asked N.qa⟩
theorem Rep.app (R : Rep L S st) (E : Sto) : Rep L (S ++ E) st := by
  have g : ∀ {n o}, S[n]? = some o → (S ++ E)[n]? = some o := fun {n o} e => by
    rw [List.getElem?_append_left (List.getElem?_eq_some_iff.mp e).1]
    exact e
  exact ⟨g R.run, g R.w, g R.kept, g R.spoken, g R.marks, g R.cells, g R.asked⟩
theorem touched_read (n : Nat) {x : Str} (ap : Apart L) (R : Rep L S st) (hf : Fits (tRead x st).2) (hx : x ∈ abcd) :
    ∃ S', csem (n + 2) .m_World_touched [.ref L.w, .tup [.str "read", .str x]] S = .ok (.int (tRead x st).1) S' ∧ Frm L S S' ∧ Rep L S' (tRead x st).2 := by
  have hm := hf.m
  simp only [tRead, List.length_append, List.length_singleton] at hm
  refine ⟨S.set L.marks (.lst (st.marks ++ [markR x (st.kept x)])), ?_, Frm.set (by simp [Pl.mut]), R.setMarks ap.nes _⟩
  rw [cs_m_World_touched]
  refine run_rt ?_
  unfold b_m_World_touched
  refine eSeq (eIfF (eZB (zEqS (zG zV))) (eIfT (eZB (zEqS (zG zV))) (eAsg (eBin (eFld (eZ zV) R.w rfl) (eZ (zG zV)) (eGetD R.kept rfl (kept_val hx)))))) ?_
  refine eSkip (eZB (zEqS (zG zV))) (eSkip (eZB (zEqS (zG zV))) (eSeq (eExpr (eApp (eFld (eZ zV) R.w rfl) R.marks (eCond (eZB (zIn (qs := ["write", "say"]) (t := false) (zG zV) (fun _ => rfl))) ?_) (big5 (by omega)))) (eRet (eZ zV))))
  rw [if_neg Bool.false_ne_true]
  rfl
theorem touched_write (n : Nat) {x : Str} {v : Int} (ap : Apart L) (R : Rep L S st) (hf : Fits (tWrt x v st).2) (hx : x ∈ abcd) :
    ∃ S', csem (n + 2) .m_World_touched [.ref L.w, .tup [.str "write", .str x, .int v]] S = .ok (.int (tWrt x v st).1) S' ∧ Frm L S S' ∧ Rep L S' (tWrt x v st).2 := by
  have hm := hf.m
  simp only [tWrt, List.length_append, List.length_singleton] at hm
  have R1 := R.setKept ap.nes fun y => if y = x then v else st.kept y
  refine ⟨(S.set L.kept (.dct (keptD fun y => if y = x then v else st.kept y))).set L.marks (.lst (st.marks ++ [markW x v])), ?_, (Frm.set (by simp [Pl.mut])).trans (Frm.set (by simp [Pl.mut])), R1.setMarks ap.nes _⟩
  rw [cs_m_World_touched]
  refine run_rt ?_
  unfold b_m_World_touched
  refine eSeq (eIfF (eZB (zEqS (zG zV))) (eIfF (eZB (zEqS (zG zV))) (eAsg (eBin (eZ zV) (eNeg (eZ zC)) rfl)))) ?_
  have this := ePutD (a := dVar 2) (b := dFld "kept" (dVar 0)) (kk := dBin oGet (dVar 1) (dC (.int 1))) (ε := [some (D.ref L.w), some (.tup [.str "write", .str x, .int v]), some (.int v)]) (S := S) (eZ zV) (eFld (eZ zV) R.w rfl) (eZ (zG zV)) R.kept rfl (show 4 < big by decide)
  rw [kept_put hx] at this
  refine eSeq (eIfT (eZB (zEqS (zG zV))) this) ?_
  refine eSkip (eZB (zEqS (zG zV))) (eSeq (eExpr (eApp (eFld (eZ zV) R1.w rfl) R1.marks (eCond (eZB (zIn (qs := ["write", "say"]) (t := true) (zG zV) (fun _ => rfl))) ?_) (big5 (show st.marks.length < 100000 by omega)))) (eRet (eZ zV)))
  rw [if_pos rfl]
  rfl
theorem touched_say (n : Nat) {v : Int} (ap : Apart L) (R : Rep L S st) (hf : Fits (tSayd v st).2) :
    ∃ S', csem (n + 2) .m_World_touched [.ref L.w, .tup [.str "say", .int v]] S = .ok (.int (tSayd v st).1) S' ∧ Frm L S S' ∧ Rep L S' (tSayd v st).2 := by
  have hm := hf.m
  have hs := hf.s
  simp only [tSayd, List.length_append, List.length_singleton] at hm hs
  have R1 := R.setSpoken ap.nes (st.spoken ++ [v])
  refine ⟨(S.set L.spoken (.lst ((st.spoken ++ [v]).map .int))).set L.marks (.lst (st.marks ++ [markS v])), ?_, (Frm.set (by simp [Pl.mut])).trans (Frm.set (by simp [Pl.mut])), R1.setMarks ap.nes _⟩
  rw [cs_m_World_touched]
  refine run_rt ?_
  unfold b_m_World_touched
  refine eSeq (eIfF (eZB (zEqS (zG zV))) (eIfF (eZB (zEqS (zG zV))) (eAsg (eBin (eZ zV) (eNeg (eZ zC)) rfl)))) ?_
  refine eSkip (eZB (zEqS (zG zV))) (eSeq (eIfT (eZB (zEqS (zG zV))) (eExpr (d := .non) (S1 := S.set L.spoken (.lst ((st.spoken ++ [v]).map .int))) ?_)) (eSeq (eExpr (eApp (eFld (eZ zV) R1.w rfl) R1.marks (eCond (eZB (zIn (qs := ["write", "say"]) (t := true) (zG zV) (fun _ => rfl))) ?_) (big5 (show st.marks.length < 100000 by omega)))) (eRet (eZ zV))))
  · rw [List.map_append]
    exact eApp (eFld (eZ zV) R.w rfl) R.spoken (eZ zV) (big5 (by rw [List.length_map]; omega))
  · rw [if_pos rfl]
    rfl
theorem touched_ask (n : Nat) (ap : Apart L) (R : Rep L S st) (hf : Fits (tAskd st).2) :
    ∃ S', csem (n + 2) .m_World_touched [.ref L.w, .tup [.str "ask"]] S = .ok (.int (tAskd st).1) S' ∧ Frm L S S' ∧ Rep L S' (tAskd st).2 := by
  have hm := hf.m
  simp only [tAskd, List.length_append, List.length_singleton] at hm
  have R1 := R.setMany ap.nes (st.many + 1)
  refine ⟨(S.set L.w (.ins "World" (wldF L (st.many + 1)))).set L.marks (.lst (st.marks ++ [markA ((st.asked[st.many]?).getD 0)])), ?_, (Frm.set (by simp [Pl.mut])).trans (Frm.set (by simp [Pl.mut])), R1.setMarks ap.nes _⟩
  rw [cs_m_World_touched]
  refine run_rt ?_
  unfold b_m_World_touched
  have e0 : dFld "many" (dVar 0) (List.map some [D.ref L.w, .tup [.str "ask"]] ++ List.replicate (3 - 2) none) S = .ok (.int st.many) S := eFld (eZ zV) R.w rfl
  have e1 : dFld "asked" (dVar 0) (List.map some [D.ref L.w, .tup [.str "ask"]] ++ List.replicate (3 - 2) none) S = .ok (.ref L.asked) S := eFld (eZ zV) R.w rfl
  have el : fLen [.ref L.asked] S = .ok (.int st.asked.length) S := by
    unfold fLen
    simp only [items, R.asked, List.length_map]
  have e4 : sFldD "many" (dBin oAdd (dFld "many" (dVar 0)) (dC (.int 1))) (dVar 0) [some (D.ref L.w), some (.tup [.str "ask"]), some (.int ((st.asked[st.many]?).getD 0))] S = .ok (.nx [some (D.ref L.w), some (.tup [.str "ask"]), some (.int ((st.asked[st.many]?).getD 0))]) (S.set L.w (.ins "World" (wldF L (st.many + 1)))) :=
    eSetF (eBin (eFld (eZ zV) R.w rfl) (eZ zC) (x_addI (i := st.many) (j := 1))) (eZ zV) R.w (by show 5 < 1000; decide)
  refine eSeq (eIfT (eZB (zEqS (zG zV))) (eLet (d := .int ((st.asked[st.many]?).getD 0)) (S1 := S) (eCond (S1 := S) (eTest (t := decide (st.many < st.asked.length)) (eBin e0 (eFn (eCons e1 eNil) el) ?_)) ?_) e4)) ?_
  · rw [x_ltI]
    congr 2
    simp
  · by_cases h : st.many < st.asked.length
    · rw [if_pos (by simpa using h)]
      refine eBin e1 e0 (eGetL R.asked ?_)
      rw [atI_in (by omega) (by simpa using h), List.getElem?_map, Int.toNat_natCast, List.getElem?_eq_getElem h]
      rfl
    · rw [if_neg (by simpa using h), List.getElem?_eq_none (by omega)]
      rfl
  refine eSkip (eZB (zEqS (zG zV))) (eSkip (eZB (zEqS (zG zV))) (eSeq (eExpr (eApp (eFld (eZ zV) R1.w rfl) R1.marks (eCond (eZB (zIn (qs := ["write", "say"]) (t := false) (zG zV) (fun _ => rfl))) ?_) (big5 (show st.marks.length < 100000 by omega)))) (eRet (eZ zV))))
  rw [if_neg Bool.false_ne_true]
  rfl
theorem touch_sem (n : Nat) {mk : D} {v : Int} {S' : Sto} (R : Rep L S st) (h : csem (n + 2) .m_World_touched [.ref L.w, mk] S = .ok (.int v) S') : csem (n + 3) .m_Run_touch [.ref L.run, mk] S = .ok (.int v) S' := by
  rw [cs_m_Run_touch]
  refine run_rt ?_
  unfold b_m_Run_touch
  exact eTake (eTest (t := true) (eBin (eFld (eZ zV) R.run rfl) (eZ zC) rfl)) (eRet (eMeth (eFld (eZ zV) R.run rfl) R.w rfl (eCons (eZ zV) eNil) h))
end
end DL
namespace DL
open PySem L2
inductive EV where
  | int (v : Int) | cell (i : Nat) | th (t : Thk)
abbrev Ev := Str → Option EV
abbrev RS := List Int → List Thk → Thk
def putE (x : Str) (v : EV) (env : Ev) : Ev := fun y => if y = x then some v else env y
def envOf (xs : List (Str × EV)) : Ev := fun y => xs.lookup y
def iterT (t : Thk) : Nat → Stt → Stt
  | 0, st => st
  | n + 1, st => iterT t n (t st).2
def Stt.setC (s : Stt) (i : Nat) (v : Int) : Stt := ⟨s.kept, s.asked, s.many, s.spoken, s.marks, s.cells.set i v⟩
def Stt.push (s : Stt) (v : Int) : Stt := ⟨s.kept, s.asked, s.many, s.spoken, s.marks, s.cells ++ [v]⟩
mutual
def den (rs : List RS) : Deed → Ev → Thk
  | .num i, _ => fun st => (i, st)
  | .nam x, env => fun st => match env x with
    | some (.int v) => (v, st)
    | _ => (0, st)
  | .dod x, env => fun st => match env x with
    | some (.th t) => t st
    | _ => (0, st)
  | .ask, _ => tAskd
  | .rd x, env => fun st => match env x with
    | some (.cell i) => ((st.cells[i]?).getD 0, st)
    | _ => tRead x st
  | .wr x a, env => fun st => match env x with
    | some (.cell i) => ((den rs a env st).1, (den rs a env st).2.setC i (den rs a env st).1)
    | _ => tWrt x (den rs a env st).1 (den rs a env st).2
  | .say a, env => fun st => tSayd (den rs a env st).1 (den rs a env st).2
  | .lt x a b, env => fun st => den rs b (putE x (.int (den rs a env st).1) env) (den rs a env st).2
  | .own x a b, env => fun st => den rs b (putE x (.cell (den rs a env st).2.cells.length) env) ((den rs a env st).2.push (den rs a env st).1)
  | .iff a b c, env => fun st => if (den rs a env st).1 ≠ 0 then den rs b env (den rs a env st).2 else den rs c env (den rs a env st).2
  | .two .thn a b, env => fun st => den rs b env (den rs a env st).2
  | .two .add a b, env => fun st => (((den rs a env st).1 + (den rs b env (den rs a env st).2).1) % 1009, (den rs b env (den rs a env st).2).2)
  | .two .les a b, env => fun st => (if (den rs a env st).1 < (den rs b env (den rs a env st).2).1 then 1 else 0, (den rs b env (den rs a env st).2).2)
  | .two .lop a b, env => fun st => (0, iterT (den rs b env) ((den rs a env st).1 % 4).toNat (den rs a env st).2)
  | .call i ps hs, env => fun st => ((rs[i]?).getD fun _ _ st => (0, st)) (denL rs ps env st).1 (denT rs hs env) (denL rs ps env st).2
def denL (rs : List RS) : List Deed → Ev → Stt → List Int × Stt
  | [], _, st => ([], st)
  | d :: ds, env, st => ((den rs d env st).1 :: (denL rs ds env (den rs d env st).2).1, (denL rs ds env (den rs d env st).2).2)
def denT (rs : List RS) : List Deed → Ev → List Thk
  | [], _ => []
  | d :: ds, env => den rs d env :: denT rs ds env
end
def Grow (t : Thk) : Prop := ∀ st, Lst st (t st).2
def GrowE (env : Ev) : Prop := ∀ x t, env x = some (.th t) → Grow t
def GrowR (rs : List RS) : Prop := ∀ f ∈ rs, ∀ ws ts, (∀ t ∈ ts, Grow t) → Grow (f ws ts)
theorem grow_ask : Grow tAskd := fun st => ⟨by simp [tAskd], by simp [tAskd], by simp [tAskd]⟩
theorem grow_read (x : Str) : Grow (tRead x) := fun st => ⟨by simp [tRead], by simp [tRead], by simp [tRead]⟩
theorem grow_wrt (x : Str) (v : Int) : Grow (tWrt x v) := fun st => ⟨by simp [tWrt], by simp [tWrt], by simp [tWrt]⟩
theorem grow_say (v : Int) : Grow (tSayd v) := fun st => ⟨by simp [tSayd], by simp [tSayd], by simp [tSayd]⟩
theorem GrowE.put {env : Ev} {x : Str} {v : EV} (h : GrowE env) (hv : ∀ t, v = .th t → Grow t) : GrowE (putE x v env) := fun y t e => by
  unfold putE at e
  split at e
  · cases e; exact hv t rfl
  · exact h y t e
theorem grow_iter {t : Thk} (h : Grow t) : ∀ n st, Lst st (iterT t n st)
  | 0, st => Lst.refl
  | n + 1, st => (h st).trans (grow_iter h n _)
mutual
theorem den_grow {rs : List RS} (hr : GrowR rs) : ∀ (d : Deed) {env : Ev}, GrowE env → Grow (den rs d env)
  | .num i, env, h => fun st => by unfold den; exact .refl
  | .nam x, env, h => fun st => by unfold den; split <;> exact .refl
  | .dod x, env, h => fun st => by
    unfold den
    split
    · rename_i t e; exact h x t e st
    · exact .refl
  | .ask, env, h => by unfold den; exact grow_ask
  | .rd x, env, h => fun st => by
    unfold den
    split
    · exact .refl
    · exact grow_read x st
  | .wr x a, env, h => fun st => by
    have ga := den_grow hr a h st
    unfold den
    split
    · exact ga.trans ⟨Nat.le_refl _, Nat.le_refl _, by simp [Stt.setC]⟩
    · exact ga.trans (grow_wrt x _ _)
  | .say a, env, h => fun st => by
    have ga := den_grow hr a h st
    unfold den
    exact ga.trans (grow_say _ _)
  | .lt x a b, env, h => fun st => by
    have ga := den_grow hr a h st
    have gb := den_grow hr b (h.put (x := x) (v := .int (den rs a env st).1) fun t e => by cases e) (den rs a env st).2
    unfold den
    exact ga.trans gb
  | .own x a b, env, h => fun st => by
    have ga := den_grow hr a h st
    have gb := den_grow hr b (h.put (x := x) (v := .cell (den rs a env st).2.cells.length) fun t e => by cases e) ((den rs a env st).2.push (den rs a env st).1)
    unfold den
    exact (ga.trans (⟨Nat.le_refl _, Nat.le_refl _, by simp [Stt.push]⟩ : Lst (den rs a env st).2 ((den rs a env st).2.push (den rs a env st).1))).trans gb
  | .iff a b c, env, h => fun st => by
    have ga := den_grow hr a h st
    unfold den
    split
    · exact ga.trans (den_grow hr b h _)
    · exact ga.trans (den_grow hr c h _)
  | .two .thn a b, env, h => fun st => by
    unfold den
    exact (den_grow hr a h st).trans (den_grow hr b h _)
  | .two .add a b, env, h => fun st => by
    unfold den
    exact (den_grow hr a h st).trans (den_grow hr b h _)
  | .two .les a b, env, h => fun st => by
    unfold den
    exact (den_grow hr a h st).trans (den_grow hr b h _)
  | .two .lop a b, env, h => fun st => by
    unfold den
    exact (den_grow hr a h st).trans (grow_iter (den_grow hr b h) _ _)
  | .call i ps hs, env, h => fun st => by
    unfold den
    refine (denL_grow hr ps h st).trans ?_
    cases e : rs[i]? with
    | none => exact .refl
    | some f => exact hr f (List.mem_of_getElem? e) _ _ (denT_grow hr hs h) _
theorem denL_grow {rs : List RS} (hr : GrowR rs) : ∀ (ds : List Deed) {env : Ev}, GrowE env → ∀ st, Lst st (denL rs ds env st).2
  | [], env, h, st => by unfold denL; exact .refl
  | d :: ds, env, h, st => by
    unfold denL
    exact (den_grow hr d h st).trans (denL_grow hr ds h _)
theorem denT_grow {rs : List RS} (hr : GrowR rs) : ∀ (ds : List Deed) {env : Ev}, GrowE env → ∀ t ∈ denT rs ds env, Grow t
  | [], env, h, t, m => by unfold denT at m; cases m
  | d :: ds, env, h, t, m => by
    unfold denT at m
    rcases List.mem_cons.mp m with e | m
    · rw [e]; exact den_grow hr d h
    · exact denT_grow hr ds h t m
end
def Impl (L : Pl) (S0 : Sto) (c : Nat) (t : Thk) (p : D) (r m : Nat) : Prop :=
  ∀ n, m ≤ n → ∀ S st, Frm L S0 S → Rep L S st → c ≤ st.cells.length → Fits (t st).2 → ∃ S', csem n .m_Run_worth [.ref L.run, p, .ref r] S = .ok (.int (t st).1) S' ∧ Frm L S S' ∧ Rep L S' (t st).2
theorem Impl.up {L : Pl} {S S' : Sto} {c c' : Nat} {t : Thk} {p : D} {r m m' : Nat} (h : Impl L S c t p r m) (f : Frm L S S') (hc : c ≤ c') (hm : m ≤ m') : Impl L S' c' t p r m' :=
  fun n hn S1 st f1 R k fi => h n (Nat.le_trans hm hn) S1 st (f.trans f1) R (Nat.le_trans hc k) fi
def EvOk (L : Pl) (S : Sto) (c m : Nat) (x : Str) (v : EV) (o : Option D) : Prop := match v with
  | .int v => o = some (.int v) ∧ kd x = 1
  | .cell i => o = some (.int (i : Int)) ∧ kd x = 2 ∧ i < c
  | .th t => (∃ p r, o = some (.tup [p, .ref r]) ∧ Impl L S c t p r m) ∧ kd x = 3
structure EnvOk (L : Pl) (S : Sto) (c r m b : Nat) (env : Ev) (K : List Str) : Prop where
  d : ∃ kvs, S[r]? = some (.dct kvs) ∧ kvs.length ≤ b ∧ ∀ x, match env x with
    | none => valD kvs (.inr x) = none
    | some v => EvOk L S c m x v (valD kvs (.inr x))
  r : r ∉ L.mut
  k : ∀ x ∈ K, env x ≠ none
theorem EvOk.up {L : Pl} {S S' : Sto} {c c' m : Nat} {x : Str} {v : EV} {o : Option D} (h : EvOk L S c m x v o) (f : Frm L S S') (hc : c ≤ c') : EvOk L S' c' m x v o := by
  cases v with
  | int v => exact h
  | cell i => exact ⟨h.1, h.2.1, Nat.lt_of_lt_of_le h.2.2 hc⟩
  | th t =>
    obtain ⟨⟨p, r, e, i⟩, k⟩ := h
    exact ⟨⟨p, r, e, i.up f hc (Nat.le_refl _)⟩, k⟩
theorem EnvOk.up {L : Pl} {S S' : Sto} {c c' r m b : Nat} {env : Ev} {K : List Str} (h : EnvOk L S c r m b env K) (f : Frm L S S') (hc : c ≤ c') : EnvOk L S' c' r m b env K := by
  obtain ⟨⟨kvs, e, hl, hx⟩, hr, hk⟩ := h
  refine ⟨⟨kvs, f.keep _ _ hr e, hl, fun x => ?_⟩, hr, hk⟩
  have := hx x
  cases q : env x with
  | none => rw [q] at this; exact this
  | some v => rw [q] at this; exact this.up f hc
end DL
namespace DL
open PySem L2
theorem valD_put {κ : Type} [DecidableEq κ] (k : κ) (v : D) (k' : κ) : ∀ kvs : List (κ × D), valD (putD kvs k v) k' = if k' = k then some v else valD kvs k' := by
  intro kvs
  unfold putD
  split
  · rename_i h
    unfold valD
    induction kvs with
    | nil => simp at h
    | cons a r ih =>
      obtain ⟨ka, va⟩ := a
      by_cases e : ka = k
      · subst e
        by_cases e2 : k' = ka
        · subst e2; simp
        · have e3 : ¬ ka = k' := fun q => e2 q.symm
          simp only [List.map_cons, if_true, List.find?_cons, e3, e2, decide_false, if_false]
          by_cases hr : (r.any fun kv => decide (kv.1 = ka)) = true
          · rw [ih hr, if_neg e2]
          · have : r.map (fun kv => if kv.1 = ka then (kv.1, v) else kv) = r := by
              refine (List.map_congr_left (g := id) fun x hx => ?_).trans (List.map_id _)
              rw [if_neg]
              · rfl
              · intro q
                exact hr (List.any_eq_true.mpr ⟨x, hx, decide_eq_true q⟩)
            rw [this]
      · have hr : (r.any fun kv => decide (kv.1 = k)) = true := by simpa [e] using h
        simp only [List.map_cons, e, if_false, List.find?_cons]
        by_cases e2 : ka = k'
        · subst e2
          simp [e]
        · simp only [e2, decide_false]
          exact ih hr
  · rename_i h
    unfold valD
    rw [List.find?_append]
    by_cases e : k' = k
    · subst e
      have : kvs.find? (fun kv => decide (kv.1 = k')) = none := by
        rw [List.find?_eq_none]
        intro x hx q
        exact h (List.any_eq_true.mpr ⟨x, hx, q⟩)
      simp [this]
    · have e3 : ¬ k = k' := fun q => e q.symm
      rw [if_neg e]
      simp [e3]
theorem putD_len {κ : Type} [DecidableEq κ] (k : κ) (v : D) (kvs : List (κ × D)) : (putD kvs k v).length ≤ kvs.length + 1 := by
  unfold putD
  split <;> simp
section
variable {L : Pl} {S S0 : Sto} {st : Stt} {ε : Env} {c r m n b : Nat} {env : Ev} {K : List Str} {x : Str} {t : Thk} {p : D}
theorem Rep.lt (R : Rep L S st) : ∀ k ∈ L.mut, k < S.length := by
  intro k h
  simp only [Pl.mut, List.mem_cons, List.not_mem_nil, or_false] at h
  rcases h with rfl | rfl | rfl | rfl | rfl
  · exact (List.getElem?_eq_some_iff.mp R.w).1
  · exact (List.getElem?_eq_some_iff.mp R.kept).1
  · exact (List.getElem?_eq_some_iff.mp R.spoken).1
  · exact (List.getElem?_eq_some_iff.mp R.marks).1
  · exact (List.getElem?_eq_some_iff.mp R.cells).1
theorem EnvOk.get (h : EnvOk L S c r m b env K) (hx : x ∈ K) : ∃ v kvs, env x = some v ∧ S[r]? = some (.dct kvs) ∧ EvOk L S c m x v (valD kvs (.inr x)) := by
  obtain ⟨⟨kvs, e, _, q⟩, _, hk⟩ := h
  have := q x
  cases e2 : env x with
  | none => exact absurd e2 (hk x hx)
  | some v => rw [e2] at this; exact ⟨v, kvs, rfl, e, this⟩
theorem kd_abcd : ∀ x ∈ abcd, kd x = 0 := by decide +kernel
theorem EnvOk.none (h : EnvOk L S c r m b env K) (hx : x ∈ abcd) : env x = none ∧ ∃ kvs, S[r]? = some (.dct kvs) ∧ valD kvs (.inr x) = none := by
  obtain ⟨⟨kvs, e, _, q⟩, _, _⟩ := h
  have := q x
  have k0 := kd_abcd x hx
  cases e2 : env x with
  | none => rw [e2] at this; exact ⟨rfl, kvs, e, this⟩
  | some v =>
    rw [e2] at this
    cases v with
    | int v => have := this.2; omega
    | cell i => have := this.2.1; omega
    | th t => have := this.2; omega
theorem eW {a bb : Den} (I : Impl L S0 c t p r m) (hn : m ≤ n) (F : Frm L S0 S) (R : Rep L S st) (hc : c ≤ st.cells.length) (hf : Fits (t st).2) (h0 : ε[0]? = some (some (.ref L.run))) (ha : ZE a ε p) (hb : ZE bb ε (.ref r)) :
    ∃ S', dMeth "Run" "worth" 3 (csem n .m_Run_worth) (dVar 0) (dCons a (dCons bb dNil)) ε S = .ok (.int (t st).1) S' ∧ Frm L S S' ∧ Rep L S' (t st).2 := by
  obtain ⟨S', e, f, R'⟩ := I n hn S st F R hc hf
  exact ⟨S', eMeth (eZ (zV h0)) R.run rfl (eCons (eZ ha) (eCons (eZ hb) eNil)) e, f, R'⟩
theorem eGet2 {a k x : Den} {kk d : D} {j : Key} {kvs : List (Key × D)} (ha : ZE a ε (.ref r)) (hk : ZE k ε kk) (hx : ZE x ε d) (hn : S[r]? = some (.dct kvs)) (hj : keyD kk = some j) : dGet2 a k x ε S = .ok ((valD kvs j).getD d) S := by
  unfold dGet2
  rw [eZ ha, x_bind]
  simp only [dctAt, hn]
  rw [eZ hk, x_bind, eZ hx, x_bind]
  simp only [hn, hj]
theorem isi_s : isiD "str" S (.str x) = some true := by rfl
theorem isi_i {i : Int} : isiD "str" S (.int i) = some false := by rfl
theorem eIsi {a : Den} {d : D} {q : Bool} {cn : String} {S1 : Sto} (ha : a ε S = .ok d S1) (h : isiD cn S1 d = some q) : dIsi cn a ε S = .ok (.bl q) S1 := by
  unfold dIsi
  rw [ha, x_bind, h]
theorem shelf_read (ap : Apart L) (E : EnvOk L S c r m b env K) (R : Rep L S st) (hc : c ≤ st.cells.length) (hf : Fits (den [] (.rd x) env st).2) (ho : (x ∈ K ∧ kd x = 2) ∨ x ∈ abcd) :
    ∃ S', csem (n + 4) .m_Run_at_shelf [.ref L.run, .tup [.str "read", .str x], .ref r] S = .ok (.int (den [] (.rd x) env st).1) S' ∧ Frm L S S' ∧ Rep L S' (den [] (.rd x) env st).2 := by
  rw [cs_m_Run_at_shelf]
  rcases ho with ⟨hk, k2⟩ | hx
  · obtain ⟨v, kvs, ev, er, ok⟩ := E.get hk
    cases v with
    | int v => have := ok.2; omega
    | th t => have := ok.2; omega
    | cell i =>
      have hi : i < st.cells.length := by have := ok.2.2; omega
      unfold den
      simp only [ev]
      refine ⟨S, ?_, Frm.refl, R⟩
      refine run_rt ?_
      unfold b_m_Run_at_shelf
      have e0 := eGet2 (ε := List.map some [D.ref L.run, .tup [.str "read", .str x], .ref r] ++ List.replicate (5 - 3) none) (a := dVar 2) (k := dBin oGet (dVar 1) (dC (.int 1))) (x := dBin oGet (dVar 1) (dC (.int 1))) zV (zG zV) (zG zV) er rfl
      rw [ok.1] at e0
      refine eLet e0 ?_
      refine eTake (eZB (zEqS (zG zV))) (eRet (eCond (eTest (eIsi (eZ zV) isi_i)) ?_))
      rw [if_neg Bool.false_ne_true]
      refine eBin (eFld (eZ zV) R.run rfl) (eZ zV) (eGetL R.cells ?_)
      show atI (List.map D.int st.cells) (i : Int) = _
      rw [atI_in (by omega) (by simpa using hi), List.getElem?_map, Int.toNat_natCast, List.getElem?_eq_getElem hi]
      rfl
  · obtain ⟨en, kvs, er, ek⟩ := E.none hx
    unfold den at hf ⊢
    simp only [en] at hf ⊢
    obtain ⟨S', e, f, R'⟩ := touched_read n ap R hf hx
    refine ⟨S', ?_, f, R'⟩
    have e2 := touch_sem n R e
    refine run_rt ?_
    unfold b_m_Run_at_shelf
    have e0 := eGet2 (ε := List.map some [D.ref L.run, .tup [.str "read", .str x], .ref r] ++ List.replicate (5 - 3) none) (a := dVar 2) (k := dBin oGet (dVar 1) (dC (.int 1))) (x := dBin oGet (dVar 1) (dC (.int 1))) zV (zG zV) (zG zV) er rfl
    rw [ek] at e0
    refine eLet e0 ?_
    refine eTake (eZB (zEqS (zG zV))) (eRet (eCond (eTest (eIsi (eZ zV) isi_s)) ?_))
    rw [if_pos rfl]
    exact eMeth (eZ zV) R.run rfl (eCons (eTup (eCons (eZ zC) (eCons (eZ zV) eNil))) eNil) e2
end
end DL
namespace DL
open PySem L2
section
variable {L : Pl} {S S0 : Sto} {st : Stt} {ε : Env} {c r m n b M : Nat} {env : Ev} {K : List Str} {x : Str} {t : Thk} {p : D} {rs : List RS}
theorem ePutL {a b kk : Den} {d : D} {ds : List D} {i k : Nat} {S1 : Sto} (hv : a ε S = .ok d S1) (ho : b ε S1 = .ok (.ref k) S1) (hk : kk ε S1 = .ok (.int (i : Int)) S1) (hn : S1[k]? = some (.lst ds)) (hi : i < ds.length) : sPut b kk a ε S = .ok (.nx ε) (S1.set k (.lst (ds.set i d))) := by
  unfold sPut
  rw [hv, x_sE, ho, x_sE, hk, x_sE]
  simp only [dctAt, lstAt, hn]
  have : ixN ds.length (i : Int) = some i := by
    unfold ixN
    rw [if_pos (by omega), if_pos (by omega), Int.toNat_natCast]
  simp only [this]
theorem impl_wr {a : Deed} (ap : Apart L) (E : EnvOk L S0 c r m b env K) (ge : GrowE env) (gr : GrowR rs) (I : Impl L S0 c (den rs a env) (enc a) r M) (hM : 4 ≤ M) (ho : (x ∈ K ∧ kd x = 2) ∨ x ∈ abcd) : Impl L S0 c (den rs (.wr x a) env) (enc (.wr x a)) r (M + 2) := by
  intro n hn S st F R hc hf
  obtain ⟨n, rfl⟩ : ∃ k, n = k + 5 := ⟨n - 5, by omega⟩
  have g := den_grow gr a ge st
  have E' := E.up F (Nat.le_refl _)
  rw [cs_m_Run_worth]
  have wo : ∀ {v : Int} {S' : Sto}, csem (n + 4) .m_Run_at_shelf [.ref L.run, enc (.wr x a), .ref r] S = .ok (.int v) S' → runFn 3 6 (b_m_Run_worth (csem (n + 4)) (csem (n + 3))) [D.ref L.run, enc (.wr x a), .ref r] S = .ok (.int v) S' := fun {v S'} h => by
    refine run_rt ?_
    unfold b_m_Run_worth
    refine eLet (eZ (zG zV)) ?_
    exact eSkip (eZB (zEqS zV)) (eSkip (eZB (zEqS zV)) (eTake (eZB (zIn (qs := ["read", "write"]) zV (fun _ => rfl))) (eRet (eMeth (eZ zV) R.run rfl (eCons (eZ zV) (eCons (eZ zV) eNil)) h))))
  rcases ho with ⟨hk, k2⟩ | hx
  · obtain ⟨v, kvs, ev, er, ok⟩ := E'.get hk
    cases v with
    | int v => have := ok.2; omega
    | th t => have := ok.2; omega
    | cell i =>
      unfold den at hf ⊢
      simp only [ev] at hf ⊢
      have hfa : Fits (den rs a env st).2 := ⟨hf.m, hf.s, by have := hf.c; simpa [Stt.setC] using this⟩
      have hi : i < (den rs a env st).2.cells.length := by have := ok.2.2; have := g.c; omega
      have e0 := eGet2 (ε := List.map some [D.ref L.run, enc (.wr x a), .ref r] ++ List.replicate (5 - 3) none) (a := dVar 2) (k := dBin oGet (dVar 1) (dC (.int 1))) (x := dBin oGet (dVar 1) (dC (.int 1))) zV (zG zV) (zG zV) er rfl
      rw [ok.1] at e0
      obtain ⟨S', e, f, R'⟩ := eW (ε := [some (D.ref L.run), some (enc (.wr x a)), some (.ref r), some (.int (i : Int)), none]) (a := dBin oGet (dVar 1) (dC (.int 2))) (bb := dVar 2) (n := n + 3) I (by omega) F R hc hfa rfl (zG zV) zV
      refine ⟨S'.set L.cells (.lst (((den rs a env st).2.cells.set i (den rs a env st).1).map .int)), wo ?_, f.trans (Frm.set (by simp [Pl.mut])), R'.setCells ap.nes _⟩
      rw [cs_m_Run_at_shelf]
      refine run_rt ?_
      unfold b_m_Run_at_shelf
      refine eLet e0 ?_
      refine eSkip (eZB (zEqS (zG zV))) ?_
      refine eLet e ?_
      refine eSkip (eTest (eIsi (eZ zV) isi_i)) ?_
      have := ePutL (ε := [some (D.ref L.run), some (enc (.wr x a)), some (.ref r), some (.int (i : Int)), some (.int (den rs a env st).1)]) (a := dVar 4) (b := dFld "cells" (dVar 0)) (kk := dVar 3) (S := S') (eZ zV) (eFld (eZ zV) R'.run rfl) (eZ zV) R'.cells (by simpa using hi)
      rw [← List.map_set] at this
      exact eSeq this (eRet (eZ zV))
  · obtain ⟨en, kvs, er, ek⟩ := E'.none hx
    unfold den at hf ⊢
    simp only [en] at hf ⊢
    have hfa : Fits (den rs a env st).2 := Fits.of (grow_wrt x _ _) hf
    have e0 := eGet2 (ε := List.map some [D.ref L.run, enc (.wr x a), .ref r] ++ List.replicate (5 - 3) none) (a := dVar 2) (k := dBin oGet (dVar 1) (dC (.int 1))) (x := dBin oGet (dVar 1) (dC (.int 1))) zV (zG zV) (zG zV) er rfl
    rw [ek] at e0
    obtain ⟨S', e, f, R'⟩ := eW (ε := [some (D.ref L.run), some (enc (.wr x a)), some (.ref r), some (.str x), none]) (a := dBin oGet (dVar 1) (dC (.int 2))) (bb := dVar 2) (n := n + 3) I (by omega) F R hc hfa rfl (zG zV) zV
    obtain ⟨S2, e2, f2, R2⟩ := touched_write n (x := x) (v := (den rs a env st).1) ap R' hf hx
    have e3 := touch_sem n R' e2
    refine ⟨S2, wo ?_, f.trans f2, R2⟩
    rw [cs_m_Run_at_shelf]
    refine run_rt ?_
    unfold b_m_Run_at_shelf
    refine eLet e0 ?_
    refine eSkip (eZB (zEqS (zG zV))) ?_
    refine eLet e ?_
    exact eTake (eTest (eIsi (eZ zV) isi_s)) (eRet (eMeth (eZ zV) R'.run rfl (eCons (eTup (eCons (eZ zC) (eCons (eZ zV) (eCons (eZ zV) eNil)))) eNil) e3))
theorem impl_num {i : Int} : Impl L S0 c (den rs (.num i) env) (enc (.num i)) r 2 := by
  intro n hn S st F R hc hf
  obtain ⟨n, rfl⟩ : ∃ k, n = k + 2 := ⟨n - 2, by omega⟩
  unfold den
  refine ⟨S, ?_, Frm.refl, R⟩
  rw [cs_m_Run_worth]
  refine run_rt ?_
  unfold b_m_Run_worth
  refine eLet (eZ (zG zV)) ?_
  exact eTake (eZB (zEqS zV)) (eRet (eZ (zG zV)))
theorem impl_nam (E : EnvOk L S0 c r m b env K) (hk : x ∈ K) (k1 : kd x = 1) : Impl L S0 c (den rs (.nam x) env) (enc (.nam x)) r 2 := by
  intro n hn S st F R hc hf
  obtain ⟨n, rfl⟩ : ∃ k, n = k + 2 := ⟨n - 2, by omega⟩
  obtain ⟨v, kvs, ev, er, ok⟩ := (E.up F (Nat.le_refl _)).get hk
  cases v with
  | cell i => have := ok.2.1; omega
  | th t => have := ok.2; omega
  | int v =>
    unfold den
    simp only [ev]
    refine ⟨S, ?_, Frm.refl, R⟩
    rw [cs_m_Run_worth]
    refine run_rt ?_
    unfold b_m_Run_worth
    refine eLet (eZ (zG zV)) ?_
    exact eSkip (eZB (zEqS zV)) (eTake (eZB (zEqS zV)) (eRet (eBin (eZ zV) (eZ (zG zV)) (eGetD er rfl ok.1))))
theorem impl_dod (E : EnvOk L S0 c r m b env K) (hk : x ∈ K) (k3 : kd x = 3) : Impl L S0 c (den rs (.dod x) env) (enc (.dod x)) r (m + 2) := by
  intro n hn S st F R hc hf
  obtain ⟨n, rfl⟩ : ∃ k, n = k + 2 := ⟨n - 2, by omega⟩
  obtain ⟨v, kvs, ev, er, ok⟩ := (E.up F (Nat.le_refl _)).get hk
  cases v with
  | cell i => have := ok.2.1; omega
  | int v => have := ok.2; omega
  | th t =>
    obtain ⟨⟨p, r', eo, I⟩, _⟩ := ok
    unfold den at hf ⊢
    simp only [ev] at hf ⊢
    obtain ⟨S', e, f, R'⟩ := eW (ε := [some (D.ref L.run), some (enc (.dod x)), some (.ref r), some (.str "do"), some p, some (.ref r')]) (a := dVar 4) (bb := dVar 5) (n := n + 1) I (by omega) Frm.refl R hc hf rfl zV zV
    refine ⟨S', ?_, f, R'⟩
    rw [cs_m_Run_worth]
    refine run_rt ?_
    unfold b_m_Run_worth
    refine eLet (eZ (zG zV)) ?_
    refine eSkip (eZB (zEqS zV)) (eSkip (eZB (zEqS zV)) (eSkip (eZB (zIn (qs := ["read", "write"]) zV (fun _ => rfl))) (eSkip (eZB (zEqS zV)) (eSkip (eZB (zEqS zV)) (eTake (eZB (zEqS zV)) ?_)))))
    refine eLet (eBin (eZ zV) (eZ (zG zV)) (eGetD er rfl eo)) ?_
    exact eRet e
theorem impl_ask (ap : Apart L) : Impl L S0 c (den rs .ask env) (enc .ask) r 4 := by
  intro n hn S st F R hc hf
  obtain ⟨n, rfl⟩ : ∃ k, n = k + 4 := ⟨n - 4, by omega⟩
  unfold den at hf ⊢
  obtain ⟨S', e, f, R'⟩ := touched_ask n ap R hf
  have e3 := touch_sem n R e
  refine ⟨S', ?_, f, R'⟩
  rw [cs_m_Run_worth]
  refine run_rt ?_
  unfold b_m_Run_worth
  refine eLet (eZ (zG zV)) ?_
  exact eSkip (eZB (zEqS zV)) (eSkip (eZB (zEqS zV)) (eSkip (eZB (zIn (qs := ["read", "write"]) zV (fun _ => rfl))) (eTake (eZB (zEqS zV)) (eRet (eMeth (eZ zV) R.run rfl (eCons (eTup (eCons (eZ zC) eNil)) eNil) e3)))))
theorem den_rd (rs : List RS) : den rs (.rd x) env = den [] (.rd x) env := by unfold den; rfl
theorem impl_rd (ap : Apart L) (E : EnvOk L S0 c r m b env K) (ho : (x ∈ K ∧ kd x = 2) ∨ x ∈ abcd) : Impl L S0 c (den rs (.rd x) env) (enc (.rd x)) r 5 := by
  intro n hn S st F R hc hf
  obtain ⟨n, rfl⟩ : ∃ k, n = k + 5 := ⟨n - 5, by omega⟩
  rw [den_rd] at hf ⊢
  obtain ⟨S', e, f, R'⟩ := shelf_read (n := n) ap (E.up F (Nat.le_refl _)) R hc hf ho
  refine ⟨S', ?_, f, R'⟩
  rw [cs_m_Run_worth]
  refine run_rt ?_
  unfold b_m_Run_worth
  refine eLet (eZ (zG zV)) ?_
  exact eSkip (eZB (zEqS zV)) (eSkip (eZB (zEqS zV)) (eTake (eZB (zIn (qs := ["read", "write"]) zV (fun _ => rfl))) (eRet (eMeth (eZ zV) R.run rfl (eCons (eZ zV) (eCons (eZ zV) eNil)) e))))
theorem impl_say {a : Deed} (ap : Apart L) (I : Impl L S0 c (den rs a env) (enc a) r M) (hM : 4 ≤ M) : Impl L S0 c (den rs (.say a) env) (enc (.say a)) r (M + 2) := by
  intro n hn S st F R hc hf
  obtain ⟨n, rfl⟩ : ∃ k, n = k + 5 := ⟨n - 5, by omega⟩
  unfold den at hf ⊢
  have hfa : Fits (den rs a env st).2 := Fits.of (grow_say _ _) hf
  obtain ⟨S', e, f, R'⟩ := eW (ε := [some (D.ref L.run), some (enc (.say a)), some (.ref r), some (.str "say"), none, none]) (a := dBin oGet (dVar 1) (dC (.int 1))) (bb := dVar 2) (n := n + 4) I (by omega) F R hc hfa rfl (zG zV) zV
  obtain ⟨S2, e2, f2, R2⟩ := touched_say (n + 1) (v := (den rs a env st).1) ap R' hf
  have e3 := touch_sem (n + 1) R' e2
  refine ⟨S2, ?_, f.trans f2, R2⟩
  rw [cs_m_Run_worth]
  refine run_rt ?_
  unfold b_m_Run_worth
  refine eLet (eZ (zG zV)) ?_
  exact eSkip (eZB (zEqS zV)) (eSkip (eZB (zEqS zV)) (eSkip (eZB (zIn (qs := ["read", "write"]) zV (fun _ => rfl))) (eSkip (eZB (zEqS zV)) (eTake (eZB (zEqS zV)) (eRet (eMeth (eZ zV) R.run rfl (eCons (eTup (eCons (eZ zC) (eCons e eNil))) eNil) e3))))))
end
end DL
namespace DL
open PySem L2
section
variable {L : Pl} {S S0 : Sto} {st : Stt} {ε : Env} {c r m n b M : Nat} {env : Ev} {K : List Str} {x : Str} {t : Thk} {p : D} {rs : List RS}
theorem worth_put {wd : Str} {ds : List D} {v : Int} {S' : Sto} (R : Rep L S st) (hw : wd ∈ (["if", "then", "add", "less", "loop"] : List Str)) (h : csem (n + 1) .m_Run_put_together [.ref L.run, .tup (.str wd :: ds), .ref r] S = .ok (.int v) S') :
    csem (n + 2) .m_Run_worth [.ref L.run, .tup (.str wd :: ds), .ref r] S = .ok (.int v) S' := by
  rw [cs_m_Run_worth]
  refine run_rt ?_
  unfold b_m_Run_worth
  refine eLet (eZ (zG zV atI_0)) ?_
  simp only [List.mem_cons, List.not_mem_nil, or_false] at hw
  rcases hw with rfl | rfl | rfl | rfl | rfl
  all_goals exact eSkip (eZB (zEqS zV)) (eSkip (eZB (zEqS zV)) (eSkip (eZB (zIn (qs := ["read", "write"]) zV (fun _ => rfl))) (eSkip (eZB (zEqS zV)) (eSkip (eZB (zEqS zV)) (eSkip (eZB (zEqS zV)) (eSkip (eZB (zIn (qs := ["call", "let", "own"]) zV (fun _ => rfl))) (eRet (eMeth (eZ zV) R.run rfl (eCons (eZ zV) (eCons (eZ zV) eNil)) h))))))))
theorem impl_iff {a b c' : Deed} (ge : GrowE env) (gr : GrowR rs) (Ia : Impl L S0 c (den rs a env) (enc a) r M) (Ib : Impl L S0 c (den rs b env) (enc b) r M) (Ic : Impl L S0 c (den rs c' env) (enc c') r M) (hM : 1 ≤ M) : Impl L S0 c (den rs (.iff a b c') env) (enc (.iff a b c')) r (M + 2) := by
  intro n hn S st F R hc hf
  obtain ⟨n, rfl⟩ : ∃ k, n = k + 2 := ⟨n - 2, by omega⟩
  have ga := den_grow gr a ge st
  obtain ⟨n, rfl⟩ : ∃ k, n = k + 1 := ⟨n - 1, by omega⟩
  unfold den at hf ⊢
  have hfa : Fits (den rs a env st).2 := by
    split at hf
    · exact Fits.of (den_grow gr b ge _) hf
    · exact Fits.of (den_grow gr c' ge _) hf
  obtain ⟨S', e, f, R'⟩ := eW (ε := [some (D.ref L.run), some (enc (.iff a b c')), some (.ref r), some (.str "if"), none, none, none]) (a := dBin oGet (dVar 1) (dC (.int 1))) (bb := dVar 2) (n := n + 1) Ia (by omega) F R hc hfa rfl (zG zV) zV
  have hc' : c ≤ (den rs a env st).2.cells.length := Nat.le_trans hc ga.c
  by_cases hv : (den rs a env st).1 ≠ 0
  · rw [if_pos hv] at hf ⊢
    obtain ⟨S2, e2, f2, R2⟩ := Ib (n + 1) (by omega) S' _ (F.trans f) R' hc' hf
    refine ⟨S2, worth_put R (by simp) ?_, f.trans f2, R2⟩
    rw [cs_m_Run_put_together]
    refine run_rt ?_
    unfold b_m_Run_put_together
    refine eLet (eZ (zG zV)) ?_
    refine eLet e ?_
    refine eTake (eZB (zEqS zV)) (eRet (eMeth (eZ zV) R'.run rfl (eCons (d := enc b) (eCond (eTest (eBin (eZ zV) (eZ zC) x_neI)) ?_) (eCons (eZ zV) eNil)) e2))
    rw [if_pos (by simpa using hv)]
    exact eZ (zG zV)
  · rw [if_neg hv] at hf ⊢
    obtain ⟨S2, e2, f2, R2⟩ := Ic (n + 1) (by omega) S' _ (F.trans f) R' hc' hf
    refine ⟨S2, worth_put R (by simp) ?_, f.trans f2, R2⟩
    rw [cs_m_Run_put_together]
    refine run_rt ?_
    unfold b_m_Run_put_together
    refine eLet (eZ (zG zV)) ?_
    refine eLet e ?_
    refine eTake (eZB (zEqS zV)) (eRet (eMeth (eZ zV) R'.run rfl (eCons (d := enc c') (eCond (eTest (eBin (eZ zV) (eZ zC) x_neI)) ?_) (eCons (eZ zV) eNil)) e2))
    rw [if_neg (by simpa using hv)]
    exact eZ (zG zV)
theorem turns {a : Den} {m jv : Nat} (ge : GrowE env) (gr : GrowR rs) {bd : Deed} (Ib : Impl L S0 c (den rs bd env) (enc bd) r M) (hn : M ≤ n) (h0 : ε[0]? = some (some (.ref L.run))) (hj : jv ≠ 0) (ha : ∀ v, ZE a (ε.set jv v) (enc bd)) {bb : Den} (hb : ∀ v, ZE bb (ε.set jv v) (.ref r)) :
    ∀ (k i : Nat) (v : Option D) (S : Sto) (st : Stt), i + k = m → Frm L S0 S → Rep L S st → c ≤ st.cells.length → Fits (iterT (den rs bd env) k st) →
      ∃ S' v', forI (fun _ => some (nums 0 m)) (gN jv) (sExpr (dMeth "Run" "worth" 3 (csem n .m_Run_worth) (dVar 0) (dCons a (dCons bb dNil)))) (k + 1) i (ε.set jv v) S = .ok (.nx (ε.set jv v')) S' ∧ Frm L S S' ∧ Rep L S' (iterT (den rs bd env) k st)
  | 0, i, v, S, st, hi, F, R, hc, hf => by
    refine ⟨S, v, ?_, Frm.refl, R⟩
    unfold forI
    simp only [nums_get, if_neg (show ¬ i < m by omega)]
  | k + 1, i, v, S, st, hi, F, R, hc, hf => by
    unfold iterT at hf ⊢
    have g := den_grow gr bd ge st
    have hfa : Fits (den rs bd env st).2 := Fits.of (grow_iter (den_grow gr bd ge) k _) hf
    obtain ⟨S1, e1, f1, R1⟩ := eW (ε := ε.set jv (some (.int (i : Int)))) (a := a) (bb := bb) Ib hn F R hc hfa (by rw [List.getElem?_set_ne hj]; exact h0) (ha _) (hb _)
    obtain ⟨S2, v2, e2, f2, R2⟩ := turns (m := m) ge gr Ib hn h0 hj ha hb k (i + 1) (some (.int (i : Int))) S1 _ (by omega) (F.trans f1) R1 (Nat.le_trans hc g.c) hf
    refine ⟨S2, v2, ?_, f1.trans f2, R2⟩
    unfold forI
    simp only [nums_get, if_pos (show i < m by omega), x_gN, List.set_set, eExpr e1]
    exact e2
theorem impl_two {w : Two} {a b : Deed} (ge : GrowE env) (gr : GrowR rs) (Ia : Impl L S0 c (den rs a env) (enc a) r M) (Ib : Impl L S0 c (den rs b env) (enc b) r M) (hM : 1 ≤ M) : Impl L S0 c (den rs (.two w a b) env) (enc (.two w a b)) r (M + 2) := by
  intro n hn S st F R hc hf
  obtain ⟨n, rfl⟩ : ∃ k, n = k + 3 := ⟨n - 3, by omega⟩
  have ga := den_grow gr a ge st
  have gb := den_grow gr b ge (den rs a env st).2
  have hc' : c ≤ (den rs a env st).2.cells.length := Nat.le_trans hc ga.c
  have two_steps : Fits (den rs b env (den rs a env st).2).2 → ∃ S' S2, (∀ {wd : Str}, dMeth "Run" "worth" 3 (csem (n + 1) .m_Run_worth) (dVar 0) (dCons (dBin oGet (dVar 1) (dC (.int 1))) (dCons (dVar 2) dNil)) [some (D.ref L.run), some (.tup [.str wd, enc a, enc b]), some (.ref r), some (.str wd), none, none, none] S = .ok (.int (den rs a env st).1) S') ∧
      (∀ {wd : Str}, dMeth "Run" "worth" 3 (csem (n + 1) .m_Run_worth) (dVar 0) (dCons (dBin oGet (dVar 1) (dC (.int 2))) (dCons (dVar 2) dNil)) [some (D.ref L.run), some (.tup [.str wd, enc a, enc b]), some (.ref r), some (.str wd), some (.int (den rs a env st).1), none, none] S' = .ok (.int (den rs b env (den rs a env st).2).1) S2) ∧ Frm L S S2 ∧ Rep L S2 (den rs b env (den rs a env st).2).2 := fun hfb => by
    obtain ⟨S', e, f, R'⟩ := Ia (n + 1) (by omega) S st F R hc (Fits.of gb hfb)
    obtain ⟨S2, e2, f2, R2⟩ := Ib (n + 1) (by omega) S' _ (F.trans f) R' hc' hfb
    exact ⟨S', S2, eMeth (eZ zV) R.run rfl (eCons (eZ (zG zV)) (eCons (eZ zV) eNil)) e, eMeth (eZ zV) R'.run rfl (eCons (eZ (zG zV)) (eCons (eZ zV) eNil)) e2, f.trans f2, R2⟩
  cases w with
  | thn =>
    unfold den at hf ⊢
    obtain ⟨S', S2, e, e2, f2, R2⟩ := two_steps hf
    refine ⟨S2, worth_put R (by simp [Two.w]) ?_, f2, R2⟩
    rw [cs_m_Run_put_together]
    refine run_rt ?_
    unfold b_m_Run_put_together
    refine eLet (eZ (zG zV)) ?_
    refine eLet e ?_
    refine eSkip (eZB (zEqS zV (by decide +kernel))) (eSkip (eZB (zEqS zV (by decide +kernel))) ?_)
    refine eLet e2 ?_
    exact eTake (eZB (zEqS zV (by decide +kernel))) (eRet (eZ zV))
  | add =>
    unfold den at hf ⊢
    obtain ⟨S', S2, e, e2, f2, R2⟩ := two_steps hf
    refine ⟨S2, worth_put R (by simp [Two.w]) ?_, f2, R2⟩
    rw [cs_m_Run_put_together]
    refine run_rt ?_
    unfold b_m_Run_put_together
    refine eLet (eZ (zG zV)) ?_
    refine eLet e ?_
    refine eSkip (eZB (zEqS zV (by decide +kernel))) (eSkip (eZB (zEqS zV (by decide +kernel))) ?_)
    refine eLet e2 ?_
    refine eSkip (eZB (zEqS zV (by decide +kernel))) (eRet (eCond (eZB (zEqS (t := true) zV (by decide +kernel))) ?_))
    rw [if_pos rfl]
    refine eBin (eBin (eZ zV) (eZ zV) x_addI) (eZ zC) ?_
    rw [x_modI, if_pos (by decide)]
  | les =>
    unfold den at hf ⊢
    obtain ⟨S', S2, e, e2, f2, R2⟩ := two_steps hf
    refine ⟨S2, worth_put R (by simp [Two.w]) ?_, f2, R2⟩
    rw [cs_m_Run_put_together]
    refine run_rt ?_
    unfold b_m_Run_put_together
    refine eLet (eZ (zG zV)) ?_
    refine eLet e ?_
    refine eSkip (eZB (zEqS zV (by decide +kernel))) (eSkip (eZB (zEqS zV (by decide +kernel))) ?_)
    refine eLet e2 ?_
    refine eSkip (eZB (zEqS zV (by decide +kernel))) (eRet (eCond (eZB (zEqS (t := false) zV (by decide +kernel))) ?_))
    rw [if_neg Bool.false_ne_true]
    refine eFn (eCons (eBin (eZ zV) (eZ zV) x_ltI) eNil) ?_
    unfold fInt
    simp only [decide_eq_true_eq]
  | lop =>
    unfold den at hf ⊢
    have hfa : Fits (den rs a env st).2 := Fits.of (grow_iter (den_grow gr b ge) _ _) hf
    obtain ⟨S', e, f, R'⟩ := Ia (n + 1) (by omega) S st F R hc hfa
    have h0 := Int.emod_nonneg (den rs a env st).1 (show (4 : Int) ≠ 0 by decide)
    have h1 := Int.emod_lt_of_pos (den rs a env st).1 (show (0 : Int) < 4 by decide)
    obtain ⟨S2, v2, e2, f2, R2⟩ := turns (n := n + 1) (ε := [some (D.ref L.run), some (enc (.two .lop a b)), some (.ref r), some (.str "loop"), some (.int (den rs a env st).1), none, none]) (m := ((den rs a env st).1 % 4).toNat) (jv := 5) (a := dBin oGet (dVar 1) (dC (.int 2))) (bb := dVar 2) ge gr Ib (by omega) rfl (by decide) (fun v => zG zV) (fun v => zV) _ 0 none S' _ (by omega) (F.trans f) R' hc' hf
    refine ⟨S2, worth_put R (by simp [Two.w]) ?_, f.trans f2, R2⟩
    rw [cs_m_Run_put_together]
    refine run_rt ?_
    unfold b_m_Run_put_together
    refine eLet (eZ (zG zV)) ?_
    refine eLet (eMeth (eZ zV) R.run rfl (eCons (eZ (zG zV)) (eCons (eZ zV) eNil)) e) ?_
    have it := iRange1_of (a := dBin oMod (dVar 4) (dC (.int 4))) (ε := [some (D.ref L.run), some (enc (.two .lop a b)), some (.ref r), some (.str "loop"), some (.int (den rs a env st).1), none, none]) (S := S') (S' := S') (j := (den rs a env st).1 % 4) (okR_of h0 (by omega)) (eBin (eZ zV) (eZ zC) (by rw [x_modI, if_pos (by decide)]))
    refine eSkip (eZB (zEqS zV (by decide +kernel))) (eTake (eZB (zEqS zV (by decide +kernel))) (eSeq (sFor_of it e2) (eRet (eZ zC))))
end
end DL
namespace DL
open PySem L2
section
variable {L : Pl} {S S0 : Sto} {st : Stt} {ε : Env} {c r m n b M : Nat} {env : Ev} {K : List Str} {x : Str} {t : Thk} {p : D} {rs : List RS}
theorem worth_with {wd : Str} {ds : List D} {v : Int} {S' : Sto} (R : Rep L S st) (hw : wd ∈ (["call", "let", "own"] : List Str)) (h : csem (n + 1) .m_Run_with_names [.ref L.run, .tup (.str wd :: ds), .ref r] S = .ok (.int v) S') :
    csem (n + 2) .m_Run_worth [.ref L.run, .tup (.str wd :: ds), .ref r] S = .ok (.int v) S' := by
  rw [cs_m_Run_worth]
  refine run_rt ?_
  unfold b_m_Run_worth
  refine eLet (eZ (zG zV atI_0)) ?_
  simp only [List.mem_cons, List.not_mem_nil, or_false] at hw
  rcases hw with rfl | rfl | rfl
  all_goals exact eSkip (eZB (zEqS zV)) (eSkip (eZB (zEqS zV)) (eSkip (eZB (zIn (qs := ["read", "write"]) zV (fun _ => rfl))) (eSkip (eZB (zEqS zV)) (eSkip (eZB (zEqS zV)) (eSkip (eZB (zEqS zV)) (eTake (eZB (zIn (qs := ["call", "let", "own"]) zV (fun _ => rfl))) (eRet (eMeth (eZ zV) R.run rfl (eCons (eZ zV) (eCons (eZ zV) eNil)) h))))))))
theorem fDict_copy {kvs : List (Key × D)} (h : S[r]? = some (.dct kvs)) : fDict [.ref r] S = .ok (.ref S.length) (S ++ [.dct kvs]) := by
  unfold fDict
  simp only [dctAt, h]
theorem put_last {E : Sto} {o o' : O} : (S ++ [o]).set S.length o' = S ++ [o'] := by simp
theorem EvOk.mono {v : EV} {o : Option D} {m' c' : Nat} {S' : Sto} (h : EvOk L S c m x v o) (f : Frm L S S') (hc : c ≤ c') (hm : m ≤ m') : EvOk L S' c' m' x v o := by
  cases v with
  | int v => exact h
  | cell i => exact ⟨h.1, h.2.1, Nat.lt_of_lt_of_le h.2.2 hc⟩
  | th t =>
    obtain ⟨⟨p, r, e, i⟩, k⟩ := h
    exact ⟨⟨p, r, e, i.up f hc hm⟩, k⟩
theorem EnvOk.put (E : EnvOk L S c r m b env K) {S' : Sto} (f : Frm L S S') (R : Rep L S' st) {kvs : List (Key × D)} (hk : S[r]? = some (.dct kvs)) {c' : Nat} (hc : c ≤ c') {kvs' : List (Key × D)} (hl : kvs'.length ≤ b + 1) (hv : ∀ y, valD kvs' (.inr y) = if y = x then some p else valD kvs (.inr y)) {v : EV} (hx : EvOk L (S' ++ [.dct kvs']) c' m x v (some p)) :
    EnvOk L (S' ++ [.dct kvs']) c' S'.length m (b + 1) (putE x v env) (x :: K) := by
  obtain ⟨⟨kvs0, e, hlen, q⟩, hr, hK⟩ := E
  rw [hk] at e
  cases e
  refine ⟨⟨kvs', by simp, hl, fun y => ?_⟩, fun h => Nat.lt_irrefl _ (R.lt _ h), fun y hy => ?_⟩
  · have := q y
    rw [hv y]
    unfold putE
    by_cases e : y = x
    · subst e
      simp only [if_true]
      exact hx
    · simp only [e, if_false]
      cases h : env y with
      | none => rw [h] at this; exact this
      | some w => rw [h] at this; exact this.mono (f.trans Frm.app) hc (Nat.le_refl _)
  · unfold putE
    rcases List.mem_cons.mp hy with e | e
    · rw [if_pos e]; simp
    · split
      · simp
      · exact hK y e
theorem big2 {n b : Nat} (h : n ≤ b) (hb : b ≤ 1000) : n < big := Nat.lt_of_le_of_lt (Nat.le_trans h hb) (by decide)
theorem impl_lt {a bd : Deed} (E : EnvOk L S0 c r m b env K) (hb : b < 1000) (ge : GrowE env) (gr : GrowR rs) (k1 : kd x = 1) (Ia : Impl L S0 c (den rs a env) (enc a) r M)
    (Ib : ∀ (v : Int) S1 r1 c1, EnvOk L S1 c1 r1 m (b + 1) (putE x (.int v) env) (x :: K) → Impl L S1 c1 (den rs bd (putE x (.int v) env)) (enc bd) r1 M) (hM : 1 ≤ M) : Impl L S0 c (den rs (.lt x a bd) env) (enc (.lt x a bd)) r (M + 2) := by
  intro n hn S st F R hc hf
  obtain ⟨n, rfl⟩ : ∃ k, n = k + 3 := ⟨n - 3, by omega⟩
  have ga := den_grow gr a ge st
  unfold den at hf ⊢
  have hfa : Fits (den rs a env st).2 := Fits.of (den_grow gr bd (ge.put fun t e => by cases e) _) hf
  obtain ⟨S', e, f, R'⟩ := Ia (n + 1) (by omega) S st F R hc hfa
  have E' := E.up (F.trans f) (Nat.le_refl _)
  obtain ⟨kvs, ek, el, _⟩ := E'.d
  have E2 := E'.put (x := x) (p := .int (den rs a env st).1) Frm.refl R' ek (Nat.le_refl _) (kvs' := putD kvs (.inr x) (.int (den rs a env st).1)) (Nat.le_trans (putD_len _ _ _) (by omega)) (fun y => by
    rw [valD_put]
    simp only [Sum.inr.injEq]) (v := .int (den rs a env st).1) ⟨rfl, k1⟩
  obtain ⟨S2, e2, f2, R2⟩ := Ib _ _ _ _ E2 (n + 1) (by omega) _ _ Frm.refl (R'.app _) (Nat.le_trans hc ga.c) hf
  refine ⟨S2, worth_with R (by simp) ?_, f.trans (Frm.app.trans f2), R2⟩
  rw [cs_m_Run_with_names]
  refine run_rt ?_
  unfold b_m_Run_with_names
  refine eSkip (eZB (zEqS (zG zV))) ?_
  refine eLet (eMeth (eZ zV) R.run rfl (eCons (eZ (zG zV)) (eCons (eZ zV) eNil)) e) ?_
  refine eLet (eFn (eCons (eZ zV) eNil) (fDict_copy ek)) ?_
  have pt := ePutD (ε := [some (D.ref L.run), some (enc (.lt x a bd)), some (.ref r), none, none, none, some (.ref S'.length), some (.int (den rs a env st).1), none, none]) (a := dVar 7) (b := dVar 6) (kk := dBin oGet (dVar 1) (dC (.int 1))) (S := S' ++ [O.dct kvs]) (eZ zV) (eZ zV) (eZ (zG zV)) getLast_app rfl (big2 el (by omega))
  rw [put_last (E := S)] at pt
  refine eSeq pt ?_
  refine eSkip (eZB (zEqS (zG zV))) (eRet (eMeth (eZ zV) (R'.app _).run rfl (eCons (eZ (zG zV)) (eCons (eZ zV) eNil)) e2))
theorem impl_own {a bd : Deed} (ap : Apart L) (E : EnvOk L S0 c r m b env K) (hb : b < 1000) (ge : GrowE env) (gr : GrowR rs) (k2 : kd x = 2) (Ia : Impl L S0 c (den rs a env) (enc a) r M)
    (Ib : ∀ (i : Nat) S1 r1 c1, EnvOk L S1 c1 r1 m (b + 1) (putE x (.cell i) env) (x :: K) → Impl L S1 c1 (den rs bd (putE x (.cell i) env)) (enc bd) r1 M) (hM : 1 ≤ M) : Impl L S0 c (den rs (.own x a bd) env) (enc (.own x a bd)) r (M + 2) := by
  intro n hn S st F R hc hf
  obtain ⟨n, rfl⟩ : ∃ k, n = k + 3 := ⟨n - 3, by omega⟩
  have ga := den_grow gr a ge st
  unfold den at hf ⊢
  have gp : Lst (den rs a env st).2 ((den rs a env st).2.push (den rs a env st).1) := ⟨Nat.le_refl _, Nat.le_refl _, by simp [Stt.push]⟩
  have hfp : Fits ((den rs a env st).2.push (den rs a env st).1) := Fits.of (den_grow gr bd (ge.put fun t e => by cases e) _) hf
  have hfa : Fits (den rs a env st).2 := Fits.of gp hfp
  obtain ⟨S', e, f, R'⟩ := Ia (n + 1) (by omega) S st F R hc hfa
  have E' := E.up (F.trans f) (Nat.le_refl _)
  obtain ⟨kvs, ek, el, _⟩ := E'.d
  -- the store with the cell, then the dict
  let kvs1 := putD kvs (.inr x) (.int (den rs a env st).1)
  let kvs2 := putD kvs1 (.inr x) (.int ((den rs a env st).2.cells.length : Int))
  let S1 := S'.set L.cells (.lst (((den rs a env st).2.cells ++ [(den rs a env st).1]).map .int))
  have R1 : Rep L S1 ((den rs a env st).2.push (den rs a env st).1) := R'.setCells ap.nes _
  have f1 : Frm L S' S1 := Frm.set (by simp [Pl.mut])
  have hlen : S1.length = S'.length := by simp [S1]
  have ek1 : S1[r]? = some (.dct kvs) := f1.keep _ _ E'.r ek
  have E2 := (E'.up f1 (Nat.le_refl _)).put (x := x) (p := .int ((den rs a env st).2.cells.length : Int)) Frm.refl R1 ek1 (c' := (den rs a env st).2.cells.length + 1) (by have := ga.c; omega) (kvs' := kvs2) (by
    have h1 : kvs1.length ≤ kvs.length + 1 := putD_len (.inr x) (.int (den rs a env st).1) kvs
    have h2 : kvs2.length = kvs1.length := by
      have : (kvs1.any fun kv => decide (kv.1 = .inr x)) = true := by
        have hv : valD kvs1 (.inr x) = some (.int (den rs a env st).1) := by rw [valD_put, if_pos rfl]
        unfold valD at hv
        cases q : kvs1.find? (fun kv => decide (kv.1 = .inr x)) with
        | none => rw [q] at hv; cases hv
        | some z =>
          have q2 := List.find?_some q
          exact List.any_eq_true.mpr ⟨z, List.mem_of_find?_eq_some q, by simpa using q2⟩
      show (putD kvs1 _ _).length = _
      unfold putD
      rw [if_pos this, List.length_map]
    omega) (fun y => by
    show valD (putD (putD kvs _ _) _ _) _ = _
    rw [valD_put, valD_put]
    simp only [Sum.inr.injEq]
    split <;> rfl) (v := .cell (den rs a env st).2.cells.length) ⟨rfl, k2, Nat.lt_succ_self _⟩
  obtain ⟨S2, e2, f2, R2⟩ := Ib _ _ _ _ E2 (n + 1) (by omega) _ _ Frm.refl (R1.app _) (by simp [Stt.push]) hf
  rw [hlen] at e2
  refine ⟨S2, worth_with R (by simp) ?_, f.trans (f1.trans (Frm.app.trans f2)), R2⟩
  rw [cs_m_Run_with_names]
  refine run_rt ?_
  unfold b_m_Run_with_names
  refine eSkip (eZB (zEqS (zG zV))) ?_
  refine eLet (eMeth (eZ zV) R.run rfl (eCons (eZ (zG zV)) (eCons (eZ zV) eNil)) e) ?_
  refine eLet (eFn (eCons (eZ zV) eNil) (fDict_copy ek)) ?_
  have pt := ePutD (ε := [some (D.ref L.run), some (enc (.own x a bd)), some (.ref r), none, none, none, some (.ref S'.length), some (.int (den rs a env st).1), none, none]) (a := dVar 7) (b := dVar 6) (kk := dBin oGet (dVar 1) (dC (.int 1))) (S := S' ++ [O.dct kvs]) (eZ zV) (eZ zV) (eZ (zG zV)) getLast_app rfl (big2 el (by omega))
  rw [put_last (E := S)] at pt
  refine eSeq pt ?_
  -- the cell
  have Ra := R'.app [O.dct kvs1]
  have hcl : L.cells < S'.length := R'.lt _ (by simp [Pl.mut])
  have ap1 := eApp (ε := [some (D.ref L.run), some (enc (.own x a bd)), some (.ref r), none, none, none, some (.ref S'.length), some (.int (den rs a env st).1), none, none]) (a := dFld "cells" (dVar 0)) (b := dVar 7) (S := S' ++ [O.dct kvs1]) (eFld (eZ zV) Ra.run rfl) Ra.cells (eZ zV) (big5 (by rw [List.length_map]; exact hfa.c))
  have es : (S' ++ [O.dct kvs1]).set L.cells (.lst ((den rs a env st).2.cells.map .int ++ [.int (den rs a env st).1])) = S1 ++ [O.dct kvs1] := by
    rw [List.set_append_left _ _ hcl]
    show _ = S'.set L.cells (.lst (((den rs a env st).2.cells ++ [(den rs a env st).1]).map .int)) ++ _
    rw [List.map_append]
    rfl
  rw [es] at ap1
  have R1a := R1.app [O.dct kvs1]
  have el2 : fLen [.ref L.cells] (S1 ++ [O.dct kvs1]) = .ok (.int (((den rs a env st).2.cells.length : Int) + 1)) (S1 ++ [O.dct kvs1]) := by
    unfold fLen
    simp only [items, R1a.cells]
    simp [Stt.push]
  have pt2 := ePutD (ε := [some (D.ref L.run), some (enc (.own x a bd)), some (.ref r), none, none, none, some (.ref S'.length), some (.int (den rs a env st).1), none, none]) (a := dBin oSub (dFn fLen (dCons (dFld "cells" (dVar 0)) dNil)) (dC (.int 1))) (b := dVar 6) (kk := dBin oGet (dVar 1) (dC (.int 1))) (S := S1 ++ [O.dct kvs1]) (S1 := S1 ++ [O.dct kvs1]) (x := .int ((den rs a env st).2.cells.length : Int)) (eBin (eFn (eCons (eFld (eZ zV) R1a.run rfl) eNil) el2) (eZ zC) (by rw [x_subI]; congr 2; omega)) (eZ zV) (eZ (zG zV)) (by rw [← hlen]; exact getLast_app) rfl (big2 (Nat.le_trans (putD_len _ _ _) (by omega)) (Nat.le_refl 1000))
  have es2 : (S1 ++ [O.dct kvs1]).set S'.length (.dct kvs2) = S1 ++ [O.dct kvs2] := by rw [← hlen]; exact put_last (E := S)
  have pt3 : sPut (dVar 6) (dBin oGet (dVar 1) (dC (.int 1))) (dBin oSub (dFn fLen (dCons (dFld "cells" (dVar 0)) dNil)) (dC (.int 1))) [some (D.ref L.run), some (enc (.own x a bd)), some (.ref r), none, none, none, some (.ref S'.length), some (.int (den rs a env st).1), none, none] (S1 ++ [O.dct kvs1]) = .ok (.nx [some (D.ref L.run), some (enc (.own x a bd)), some (.ref r), none, none, none, some (.ref S'.length), some (.int (den rs a env st).1), none, none]) (S1 ++ [O.dct kvs2]) := by
    rw [← es2]
    exact pt2
  refine eSeq (eIfT (eZB (zEqS (zG zV))) (eSeq (eExpr ap1) pt3)) (eRet (eMeth (eZ zV) (R1.app _).run rfl (eCons (eZ (zG zV)) (eCons (eZ zV) eNil)) e2))
end
end DL
namespace DL
open PySem L2
section
variable {L : Pl} {S S0 : Sto} {st : Stt} {ε : Env} {c r m n b M : Nat} {env : Ev} {K : List Str} {x : Str} {t : Thk} {p : D} {rs : List RS}
theorem pairs_ix : ∀ {xs ys : List D} {i : Nat} {a b : D}, xs[i]? = some a → ys[i]? = some b → (pairs xs ys)[i]? = some (.tup [a, b])
  | [], _, _, _, _, h, _ => by simp at h
  | x :: xs, [], _, _, _, _, h => by simp at h
  | x :: xs, y :: ys, 0, a, b, h1, h2 => by
    simp at h1 h2
    subst h1; subst h2
    rfl
  | x :: xs, y :: ys, i + 1, a, b, h1, h2 => by
    simp at h1 h2
    show (pairs xs ys)[i]? = _
    exact pairs_ix h1 h2
theorem unt_enc (x : Str) (p : Deed) : unt (.tup [.str x, enc p]) = true := by cases p <;> rfl
theorem pairs_unt : ∀ (xs : List Str) (ps : List Deed), (pairs (xs.map D.str) (encs ps)).all unt = true
  | [], _ => by simp [pairs]
  | _ :: _, [] => by simp [pairs, encs]
  | x :: xs, p :: ps => by
    show (unt (.tup [.str x, enc p]) && (pairs (xs.map D.str) (encs ps)).all unt) = true
    rw [unt_enc, pairs_unt xs ps]; rfl
theorem pairs_ln : ∀ {xs ys : List D}, xs.length = ys.length → (pairs xs ys).length = xs.length
  | [], [], _ => rfl
  | x :: xs, y :: ys, h => by
    show (pairs xs ys).length + 1 = xs.length + 1
    rw [pairs_ln (by simpa using h)]
  | [], y :: ys, h => by simp at h
  | x :: xs, [], h => by simp at h
theorem parts_loop {names : List Str} {ps : List Deed} (hlen : names.length = ps.length) (h1000 : ps.length ≤ 1000) (ge : GrowE env) (gr : GrowR rs) (hI : ∀ q ∈ ps, Impl L S0 c (den rs q env) (enc q) r M) (hn : M ≤ n) {e0 e1 e3 e4 e5 e6 e7 : Option D} :
    ∀ (k i : Nat) (acc : List D) (S : Sto) (st : Stt), i + k = ps.length → acc.length ≤ i → Frm L S0 S → Rep L S st → c ≤ st.cells.length → Fits (denL rs (ps.drop i) env st).2 →
      ∃ S', lcX (fun _ => some (pairs (names.map .str) (encs ps))) (gT 2 (gsCons (gN 8) (gsCons (gN 9) gsNil))) (dTup (dCons (dVar 8) (dCons (dMeth "Run" "worth" 3 (csem n .m_Run_worth) (dVar 0) (dCons (dVar 9) (dCons (dVar 2) dNil))) dNil))) [8, 9] [some (.ref L.run), e1, some (.ref r), e3, e4, e5, e6, e7, none, none] (k + 1) i acc S
        = .ok (acc ++ ((names.drop i).zip (denL rs (ps.drop i) env st).1).map fun q => .tup [.str q.1, .int q.2]) S' ∧ Frm L S S' ∧ Rep L S' (denL rs (ps.drop i) env st).2
  | 0, i, acc, S, st, hi, ha, F, R, hc, hf => by
    have e1 : ps.drop i = [] := List.drop_eq_nil_of_le (by omega)
    have e2 : (pairs (names.map D.str) (encs ps))[i]? = none := List.getElem?_eq_none (by rw [pairs_ln (by rw [encs_map]; simpa using hlen), List.length_map]; omega)
    rw [e1] at hf ⊢
    unfold denL at hf ⊢
    refine ⟨S, ?_, Frm.refl, R⟩
    unfold lcX
    simp only [e2]
    simp
  | k + 1, i, acc, S, st, hi, ha, F, R, hc, hf => by
    have hip : i < ps.length := by omega
    have hin : i < names.length := by omega
    have d1 : ps.drop i = ps[i] :: ps.drop (i + 1) := List.drop_eq_getElem_cons hip
    have d2 : names.drop i = names[i] :: names.drop (i + 1) := List.drop_eq_getElem_cons hin
    rw [d1] at hf ⊢
    unfold denL at hf ⊢
    have g := den_grow gr ps[i] ge st
    have hfa : Fits (den rs ps[i] env st).2 := Fits.of (denL_grow gr _ ge _) hf
    obtain ⟨S1, e1', f1, R1⟩ := eW (ε := [some (.ref L.run), e1, some (.ref r), e3, e4, e5, e6, e7, some (.str names[i]), some (enc ps[i])]) (a := dVar 9) (bb := dVar 2) (hI ps[i] (List.getElem_mem hip)) hn F R hc hfa rfl zV zV
    obtain ⟨S2, e2, f2, R2⟩ := parts_loop (e0 := e0) hlen h1000 ge gr hI hn (e1 := e1) (e3 := e3) (e4 := e4) (e5 := e5) (e6 := e6) (e7 := e7) k (i + 1) (acc ++ [.tup [.str names[i], .int (den rs ps[i] env st).1]]) S1 _ (by omega) (by simp; omega) (F.trans f1) R1 (Nat.le_trans hc g.c) hf
    refine ⟨S2, ?_, f1.trans f2, R2⟩
    have gp : (pairs (names.map D.str) (encs ps))[i]? = some (.tup [.str names[i], enc ps[i]]) := pairs_ix (by rw [List.getElem?_map, List.getElem?_eq_getElem hin]; rfl) (by rw [encs_map, List.getElem?_map, List.getElem?_eq_getElem hip]; rfl)
    have gg : gT 2 (gsCons (gN 8) (gsCons (gN 9) gsNil)) (.tup [.str names[i], enc ps[i]]) (wipeE [some (.ref L.run), e1, some (.ref r), e3, e4, e5, e6, e7, none, none] [8, 9]) S = some [some (.ref L.run), e1, some (.ref r), e3, e4, e5, e6, e7, some (.str names[i]), some (enc ps[i])] := rfl
    have et : dTup (dCons (dVar 8) (dCons (dMeth "Run" "worth" 3 (csem n .m_Run_worth) (dVar 0) (dCons (dVar 9) (dCons (dVar 2) dNil))) dNil)) [some (.ref L.run), e1, some (.ref r), e3, e4, e5, e6, e7, some (.str names[i]), some (enc ps[i])] S = .ok (.tup [.str names[i], .int (den rs ps[i] env st).1]) S1 := eTup (eCons (eZ zV) (eCons e1' eNil))
    unfold lcX
    simp only [gp, gg, x_bind, et]
    rw [if_pos (show acc.length < big from Nat.lt_of_le_of_lt (show acc.length ≤ 1000 by omega) (by decide)), e2, d2, List.zip_cons_cons, List.map_cons]
    simp only [List.append_assoc, List.singleton_append]
theorem fall_pairs {α : Type} {f : α → Str} {g : α → D} : ∀ l : List α, fall pairD (l.map fun q => D.tup [.str (f q), g q]) = some (l.map fun q => (.inr (f q), g q))
  | [] => rfl
  | a :: l => fall_cons rfl (fall_pairs l)
theorem fDict_list {ds : List D} {kvs : List (Key × D)} (h : S[r]? = some (.lst ds)) (hk : fall pairD ds = some kvs) : fDict [.ref r] S = .ok (.ref S.length) (S ++ [.dct (mergeD [] kvs)]) := by
  unfold fDict
  simp only [dctAt, litems, h, hk]
theorem putD_new {κ : Type} [DecidableEq κ] {k : κ} {v : D} {kvs : List (κ × D)} (h : k ∉ kvs.map (·.1)) : putD kvs k v = kvs ++ [(k, v)] := by
  unfold putD
  rw [if_neg]
  intro q
  obtain ⟨x, hx, e⟩ := List.any_eq_true.mp q
  exact h (List.mem_map.mpr ⟨x, hx, by simpa using e⟩)
theorem mergeD_new : ∀ (more kvs : List (Key × D)), ((kvs ++ more).map (·.1)).Nodup → mergeD kvs more = kvs ++ more
  | [], kvs, _ => by simp [mergeD]
  | a :: more, kvs, h => by
    have e : mergeD kvs (a :: more) = mergeD (putD kvs a.1 a.2) more := rfl
    have h1 : a.1 ∉ kvs.map (·.1) := by
      rw [List.map_append, List.map_cons] at h
      have := (List.nodup_append.mp h).2.2
      intro q
      exact this _ q _ List.mem_cons_self rfl
    rw [e, putD_new h1, mergeD_new more (kvs ++ [(a.1, a.2)]) (by simpa using h)]
    simp
theorem valD_lookup {l : List (Str × D)} {y : Str} : valD (l.map fun q => ((.inr q.1 : Key), q.2)) (.inr y) = l.lookup y := by
  unfold valD
  induction l with
  | nil => rfl
  | cons a l ih =>
    obtain ⟨k, v⟩ := a
    by_cases h : k = y
    · subst h; simp
    · have h2 : ¬ y = k := fun q => h q.symm
      have h3 : (y == k) = false := by simpa using h2
      simp only [List.map_cons, List.find?_cons, Sum.inr.injEq, h, decide_false, List.lookup_cons, h3]
      exact ih
theorem zip_ok : ∀ {xs : List Str} {es : List EV} {ds : List D}, xs.length = es.length → es.length = ds.length → (∀ (i : Nat) (y : Str) (e : EV) (d : D), xs[i]? = some y → es[i]? = some e → ds[i]? = some d → EvOk L S c m y e (some d)) → ∀ y, match (xs.zip es).lookup y with
    | none => (xs.zip ds).lookup y = none
    | some v => EvOk L S c m y v ((xs.zip ds).lookup y)
  | [], _, _, _, _, _, y => by simp
  | x :: xs, [], _, h, _, _, _ => by simp at h
  | x :: xs, e :: es, [], _, h, _, _ => by simp at h
  | x :: xs, e :: es, d :: ds, h1, h2, h, y => by
    simp only [List.zip_cons_cons, List.lookup_cons]
    by_cases q : y = x
    · subst q
      simpa using h 0 y e d rfl rfl rfl
    · have q2 : (y == x) = false := by simpa using q
      rw [q2]
      exact zip_ok (by simpa using h1) (by simpa using h2) (fun i y e d a b c => h (i + 1) y e d (by simpa using a) (by simpa using b) (by simpa using c)) y
theorem zip_in {α : Type} : ∀ {xs : List Str} {es : List α} {y : Str}, xs.length = es.length → y ∈ xs → (xs.zip es).lookup y ≠ none
  | [], _, _, _, h => by simp at h
  | x :: xs, [], _, h, _ => by simp at h
  | x :: xs, e :: es, y, h1, h => by
    simp only [List.zip_cons_cons, List.lookup_cons]
    by_cases q : y = x
    · subst q; simp
    · have q2 : (y == x) = false := by simpa using q
      rw [q2]
      exact zip_in (by simpa using h1) (by rcases List.mem_cons.mp h with e | e; · exact absurd e q
                                           · exact e)
end
end DL
namespace DL
open PySem L2
theorem nodup_map {α β : Type} {f : α → β} (hf : ∀ a b, f a = f b → a = b) {l : List α} (h : l.Nodup) : (l.map f).Nodup := List.Pairwise.map f (fun a b q e => q (hf a b e)) h
theorem dLcX_of {it : IDen} {g : GDen} {e : Den} {vs : List Nat} {ε : Env} {S S' S'' : Sto} {xs ds : List D} (hi : it ε S = .ok (fun _ => some xs) S') (hl : lcX (fun _ => some xs) g e vs ε (xs.length + 1) 0 [] S' = .ok ds S'') : dLcX it g e vs ε S = .ok (.ref S''.length) (S'' ++ [.lst ds]) := by
  unfold dLcX
  rw [hi, x_bind]
  simp only [hl, x_bind, lcEnd]
theorem eUpd {o a : Den} {ε : Env} {S S' : Sto} {n m : Nat} {kvs more : List (Key × D)} (ho : o ε S = .ok (.ref n) S) (hn : S[n]? = some (.dct kvs)) (ha : a ε S = .ok (.ref m) S') (hn' : S'[n]? = some (.dct kvs)) (hm : S'[m]? = some (.dct more)) (hne : n ≠ m) (hl : kvs.length + more.length ≤ 1000) : dUpd o a ε S = .ok .non (S'.set n (.dct (mergeD kvs more))) := by
  unfold dUpd
  rw [ho, x_bind]
  simp only [dctAt, hn, ha, x_bind, hn', hm]
  rw [if_pos ⟨hne, Nat.le_trans hl (by decide)⟩]
theorem pairs_h {r : Nat} : ∀ (xs : List Str) (hs : List Deed), (pairs (xs.map .str) (encs hs)).map (fun d => match d with | .tup [a, b] => D.tup [a, .tup [b, .ref r]] | d => d) = (xs.zip (hs.map fun d => D.tup [enc d, .ref r])).map fun q => D.tup [.str q.1, q.2]
  | [], _ => rfl
  | x :: xs, [] => rfl
  | x :: xs, h :: hs => by
    show _ :: (pairs (xs.map D.str) (encs hs)).map _ = _ :: _
    rw [pairs_h xs hs]
    rfl
def callE (r : Rule) (ws : List Int) (ts : List Thk) : Ev := envOf (r.ns.zip (ws.map .int) ++ r.hs.zip (ts.map .th))
def RulOk (L : Pl) (rules : List Rule) (rs : List RS) (j A : Nat) : Prop := ∀ i < j, ∃ r f, rules[i]? = some r ∧ rs[i]? = some f ∧ (r.ns ++ r.hs).Nodup ∧ (∀ x ∈ r.ns, kd x = 1) ∧ (∀ x ∈ r.hs, kd x = 3) ∧ r.ns.length ≤ 100 ∧ r.hs.length ≤ 100 ∧
  ∀ S c ρ m ws ts, ws.length = r.ns.length → ts.length = r.hs.length → EnvOk L S c ρ m (r.ns.length + r.hs.length) (callE r ws ts) (r.ns ++ r.hs) → (∀ t ∈ ts, Grow t) → Impl L S c (f ws ts) (enc r.b) ρ (m + A)
theorem denL_len (rs : List RS) : ∀ (ps : List Deed) (env : Ev) (st : Stt), (denL rs ps env st).1.length = ps.length
  | [], _, _ => rfl
  | p :: ps, env, st => by
    unfold denL
    simp [denL_len rs ps]
theorem denT_map (rs : List RS) : ∀ (ps : List Deed) (env : Ev), denT rs ps env = ps.map fun d => den rs d env
  | [], _ => rfl
  | p :: ps, env => by
    unfold denT
    rw [denT_map rs ps]
    rfl
section
variable {L : Pl} {S S0 : Sto} {st : Stt} {ε : Env} {c r m n b M A j : Nat} {env : Ev} {K : List Str} {x : Str} {t : Thk} {p : D} {rs : List RS} {rules : List Rule}
theorem impl_call {i : Nat} {ps hs : List Deed} (hL : L.rules = encRs rules) (RO : RulOk L rules rs j A) (hij : i < j) (hsz : (szs rules)[i]? = some (ps.length, hs.length)) (hr : r ∉ L.mut) (ge : GrowE env) (gr : GrowR rs) (Ip : ∀ q ∈ ps, Impl L S0 c (den rs q env) (enc q) r M) (Ih : ∀ q ∈ hs, Impl L S0 c (den rs q env) (enc q) r M) (hM : 1 ≤ M) :
    Impl L S0 c (den rs (.call i ps hs) env) (enc (.call i ps hs)) r (M + A + 2) := by
  intro n hn S st F R hc hf
  obtain ⟨n, rfl⟩ : ∃ k, n = k + 3 := ⟨n - 3, by omega⟩
  obtain ⟨ru, f, e1, e2, nd, k1, k3, l1, l2, body⟩ := RO i hij
  have hl1 : ru.ns.length = ps.length ∧ ru.hs.length = hs.length := by
    unfold szs at hsz
    rw [List.getElem?_map, e1] at hsz
    simpa using hsz
  obtain ⟨hp, hh⟩ := hl1
  have gp := denL_grow gr ps ge st
  have gf : Grow (f (denL rs ps env st).1 (denT rs hs env)) := gr f (List.mem_of_getElem? e2) _ _ (denT_grow gr hs ge)
  unfold den at hf ⊢
  simp only [e2, Option.getD_some] at hf ⊢
  have hfp : Fits (denL rs ps env st).2 := Fits.of (gf _) hf
  -- the worths
  obtain ⟨S1, lp, f1, R1⟩ := parts_loop (e0 := none) (n := n + 1) (names := ru.ns) (ps := ps) hp (by omega) ge gr Ip (by omega) (e1 := some (enc (.call i ps hs))) (e3 := some (tstr ru.ns)) (e4 := some (tstr ru.hs)) (e5 := some (enc ru.b)) (e6 := none) (e7 := none) ps.length 0 [] S st (by omega) (by simp) F R hc (by simpa using hfp)
  simp only [List.drop_zero, List.nil_append] at lp f1 R1
  let ws := (denL rs ps env st).1
  have hws : ws.length = ru.ns.length := by rw [hp]; exact denL_len rs ps env st
  have nd1 : ru.ns.Nodup := (List.nodup_append.mp nd).1
  let z1 : List (Str × D) := ru.ns.zip (ws.map .int)
  let z2 : List (Str × D) := ru.hs.zip (hs.map fun d => .tup [enc d, .ref r])
  have zk1 : z1.map (·.1) = ru.ns := List.map_fst_zip (by simp [hws])
  have zk2 : z2.map (·.1) = ru.hs := List.map_fst_zip (by simp [hh])
  let toL : List (Str × D) → List D := fun z => z.map fun q => .tup [.str q.1, q.2]
  let toK : List (Str × D) → List (Key × D) := fun z => z.map fun q => (.inr q.1, q.2)
  have hl1 : ((ru.ns.zip (denL rs ps env st).1).map fun q => D.tup [.str q.1, .int q.2]) = toL z1 := by
    show _ = (ru.ns.zip (ws.map D.int)).map _
    rw [List.zip_map_right, List.map_map]
    rfl
  rw [hl1] at lp
  have keysK : ∀ z : List (Str × D), (toK z).map (·.1) = (z.map (·.1)).map Sum.inr := fun z => by
    show (z.map fun q => ((.inr q.1 : Key), q.2)).map (·.1) = _
    rw [List.map_map, List.map_map]
    rfl
  have em1 : mergeD [] (toK z1) = toK z1 := by
    rw [mergeD_new _ [] (by rw [List.nil_append, keysK, zk1]; exact nodup_map (fun a b q => Sum.inr.inj q) nd1)]
    rfl
  have em2 : mergeD [] (toK z2) = toK z2 := by
    rw [mergeD_new _ [] (by rw [List.nil_append, keysK, zk2]; exact nodup_map (fun a b q => Sum.inr.inj q) (List.nodup_append.mp nd).2.1)]
    rfl
  have em3 : mergeD (toK z1) (toK z2) = toK (z1 ++ z2) := by
    have e : toK (z1 ++ z2) = toK z1 ++ toK z2 := List.map_append
    rw [mergeD_new _ _ (by rw [← e, keysK, List.map_append, zk1, zk2]; exact nodup_map (fun a b q => Sum.inr.inj q) nd), e]
  let S2 : Sto := S1 ++ [.lst (toL z1)]
  let ε1 : Env := [some (.ref L.run), some (enc (.call i ps hs)), some (.ref r), some (tstr ru.ns), some (tstr ru.hs), some (enc ru.b), none, none, none, none]
  let ε2 : Env := [some (.ref L.run), some (enc (.call i ps hs)), some (.ref r), some (tstr ru.ns), some (tstr ru.hs), some (enc ru.b), some (.ref S2.length), none, none, none]
  -- the first dict
  have it1 : iZipD (dVar 3) (dBin oGet (dVar 1) (dC (.int 2))) ε1 S = .ok (fun _ => some (pairs (ru.ns.map .str) (encs ps))) S := by
    unfold iZipD
    have a1 : dVar 3 ε1 S = .ok (tstr ru.ns) S := eZ zV
    have a2 : dBin oGet (dVar 1) (dC (.int 2)) ε1 S = .ok (.tup (encs ps)) S := eZ (zG zV)
    rw [a1, x_bind, a2, x_bind]
    exact if_pos (pairs_unt ru.ns ps)
  have pl : (pairs (ru.ns.map D.str) (encs ps)).length = ps.length := by rw [pairs_ln (by rw [encs_map]; simpa using hp), List.length_map, hp]
  have lc1 := dLcX_of (vs := [8, 9]) it1 (by rw [pl]; exact lp)
  have fd1 : fDict [.ref S1.length] S2 = .ok (.ref S2.length) (S2 ++ [.dct (toK z1)]) := by
    have := fDict_list (getLast_app (A := S1) (x := O.lst (toL z1))) (fall_pairs (f := Prod.fst) (g := Prod.snd) z1)
    rw [this]
    show _ = DL.R.ok _ (S2 ++ [.dct (toK z1)])
    rw [← em1]
  -- the second
  have it2 : PurI [] (iZipD (dVar 4) (dBin oGet (dVar 1) (dC (.int 3)))) ε2 (pairs (ru.hs.map .str) (encs hs)) := piZip (xs := ru.hs.map .str) (ys := encs hs) pV (pO (d := enc (.call i ps hs)) (e := .int 3) pV pC fun S => rfl) (pairs_unt ru.hs hs)
  have ll2 : (pairs (ru.hs.map D.str) (encs hs)).length ≤ 1000 := by rw [pairs_ln (by rw [encs_map]; simpa using hh), List.length_map]; omega
  obtain ⟨E, lc2⟩ := pLc1 (g := gT 2 (gsCons (gN 8) (gsCons (gN 9) gsNil))) (vs := [8, 9]) (e := dTup (dCons (dVar 8) (dCons (dTup (dCons (dVar 9) (dCons (dVar 2) dNil))) dNil))) (h := fun d => match d with | .tup [a, b] => D.tup [a, .tup [b, .ref r]] | d => d) it2 (fun x hx => by
    obtain ⟨k, hk⟩ := List.getElem?_of_mem hx
    have hkl := (List.getElem?_eq_some_iff.mp hk).1
    rw [pairs_ln (by rw [encs_map]; simpa using hh), List.length_map] at hkl
    have hkh : k < hs.length := by omega
    have e := pairs_ix (xs := ru.hs.map D.str) (ys := encs hs) (i := k) (a := .str ru.hs[k]) (b := enc hs[k]) (by rw [List.getElem?_map, List.getElem?_eq_getElem hkl]; rfl) (by rw [encs_map, List.getElem?_map, List.getElem?_eq_getElem hkh]; rfl)
    rw [hk] at e
    cases e
    exact ⟨_, fun S => rfl, pT (pK pV (pK (pT (pK pV (pK pV pN))) pN))⟩) ll2 (S2 ++ [.dct (toK z1)]) List.nil_prefix
  rw [pairs_h] at lc2
  let S4 : Sto := S2 ++ [.dct (toK z1)] ++ E ++ [.lst (toL z2)]
  have fd2 : fDict [.ref (S2 ++ [O.dct (toK z1)] ++ E).length] S4 = .ok (.ref S4.length) (S4 ++ [.dct (toK z2)]) := by
    have := fDict_list (getLast_app (A := S2 ++ [O.dct (toK z1)] ++ E) (x := O.lst (toL z2))) (fall_pairs (f := Prod.fst) (g := Prod.snd) z2)
    rw [this]
    show _ = DL.R.ok _ (S4 ++ [.dct (toK z2)])
    rw [← em2]
  let B : Sto := E ++ [.lst (toL z2)] ++ [.dct (toK z2)]
  have eS5 : S4 ++ [.dct (toK z2)] = S2 ++ [.dct (toK z1)] ++ B := by simp [S4, B]
  have up := eUpd (ε := ε2) (o := dVar 6) (a := dFn fDict (dCons (dLc (iZipD (dVar 4) (dBin oGet (dVar 1) (dC (.int 3)))) (gT 2 (gsCons (gN 8) (gsCons (gN 9) gsNil))) bYes (dTup (dCons (dVar 8) (dCons (dTup (dCons (dVar 9) (dCons (dVar 2) dNil))) dNil))) [8, 9]) dNil)) (S := S2 ++ [.dct (toK z1)]) (n := S2.length) (kvs := toK z1) (more := toK z2)
    (eZ zV) getLast_app (eFn (eCons lc2 eNil) fd2) (by rw [eS5]; exact mid_get) getLast_app (by simp [S4]) (by simp [toK, z1, z2, hws, hh]; omega)
  rw [eS5, mid_set, em3] at up
  let S6 : Sto := S2 ++ [.dct (toK (z1 ++ z2))] ++ B
  have eS6 : S6 = S1 ++ ([.lst (toL z1)] ++ [.dct (toK (z1 ++ z2))] ++ B) := by simp [S6, S2]
  have R6 : Rep L S6 (denL rs ps env st).2 := by rw [eS6]; exact R1.app _
  have f6 : Frm L S S6 := by rw [eS6]; exact f1.trans Frm.app
  have hd1 : S2.length ∉ L.mut := fun h => by
    have := R1.lt _ h
    simp [S2] at this
    omega
  have E6 : EnvOk L S6 c S2.length M (ru.ns.length + ru.hs.length) (callE ru ws (denT rs hs env)) (ru.ns ++ ru.hs) := by
    refine ⟨⟨toK (z1 ++ z2), mid_get, by simp [toK, z1, z2, hws, hh], fun y => ?_⟩, hd1, fun y hy => ?_⟩
    · rw [valD_lookup, List.lookup_append]
      unfold callE envOf
      rw [List.lookup_append]
      have q1 := zip_ok (L := L) (S := S6) (c := c) (m := M) (xs := ru.ns) (es := ws.map EV.int) (ds := ws.map D.int) (by simp [hws]) (by simp) (fun i y e d a b c => by
        rw [List.getElem?_map] at b c
        cases hw : ws[i]? with
        | none => rw [hw] at b; cases b
        | some w =>
          rw [hw] at b c
          cases b; cases c
          exact ⟨rfl, k1 y (List.mem_of_getElem? a)⟩) y
      have q2 := zip_ok (L := L) (S := S6) (c := c) (m := M) (xs := ru.hs) (es := (denT rs hs env).map EV.th) (ds := hs.map fun d => D.tup [enc d, .ref r]) (by simp [denT_map, hh]) (by simp [denT_map]) (fun i y e d a b c => by
        rw [denT_map, List.map_map, List.getElem?_map] at b
        rw [List.getElem?_map] at c
        cases hw : hs[i]? with
        | none => rw [hw] at b; cases b
        | some w =>
          rw [hw] at b c
          cases b; cases c
          exact ⟨⟨_, _, rfl, (Ih w (List.mem_of_getElem? hw)).up (F.trans f6) (Nat.le_refl _) (Nat.le_refl _)⟩, k3 y (List.mem_of_getElem? a)⟩) y
      cases h1 : (ru.ns.zip (ws.map EV.int)).lookup y with
      | some v =>
        rw [h1] at q1
        cases h2 : (ru.ns.zip (ws.map D.int)).lookup y with
        | none =>
          rw [h2] at q1
          cases v with
          | int v => exact absurd q1.1 (by simp)
          | cell i => exact absurd q1.1 (by simp)
          | th t => obtain ⟨⟨_, _, q, _⟩, _⟩ := q1; cases q
        | some d =>
          rw [h2] at q1
          exact q1
      | none =>
        rw [h1] at q1
        have q1' : (ru.ns.zip (ws.map D.int)).lookup y = none := q1
        show match (ru.hs.zip ((denT rs hs env).map EV.th)).lookup y with | none => ((z1.lookup y).or (z2.lookup y)) = none | some v => EvOk L S6 c M y v ((z1.lookup y).or (z2.lookup y))
        rw [show z1.lookup y = none from q1', Option.none_or]
        exact q2
    · unfold callE envOf
      rw [List.lookup_append]
      rcases List.mem_append.mp hy with h | h
      · have := zip_in (es := ws.map EV.int) (by simp [hws]) h
        cases q : (ru.ns.zip (ws.map EV.int)).lookup y with
        | none => exact absurd q this
        | some v => simp
      · have := zip_in (es := (denT rs hs env).map EV.th) (by simp [denT_map, hh]) h
        cases q : (ru.ns.zip (ws.map EV.int)).lookup y with
        | some v => simp
        | none =>
          rw [Option.none_or]
          exact this
  obtain ⟨S7, e7, f7, R7⟩ := body S6 c S2.length M ws (denT rs hs env) hws (by simp [denT_map, hh]) E6 (denT_grow gr hs ge) (n + 1) (by omega) S6 _ Frm.refl R6 (Nat.le_trans hc gp.c) hf
  refine ⟨S7, worth_with R (by simp) ?_, f6.trans f7, R7⟩
  rw [cs_m_Run_with_names]
  refine run_rt ?_
  unfold b_m_Run_with_names
  refine eTake (eZB (zEqS (zG zV))) ?_
  have hrule : oGet L.rules (.int (i : Int)) S = .ok (encR ru) S := by
    rw [hL]
    unfold encRs
    have il : i < rules.length := (List.getElem?_eq_some_iff.mp e1).1
    have : atI (rules.map encR) (i : Int) = some (encR ru) := by
      rw [atI_in (by omega) (by simpa using il), Int.toNat_natCast, List.getElem?_map, e1]
      rfl
    rw [x_getT, this]
  refine eLet (eBin (eFld (eZ zV) R.run rfl) (eZ (zG zV)) hrule) ?_
  refine eLet (eFn (eCons lc1 eNil) fd1) ?_
  refine eSeq (eExpr up) ?_
  exact eRet (eMeth (eZ zV) R6.run rfl (eCons (eZ zV) (eCons (eZ zV) eNil)) e7)
end
end DL
namespace DL
open PySem L2
theorem putE_grow_int {env : Ev} (h : GrowE env) (x : Str) (v : Int) : GrowE (putE x (.int v) env) := h.put fun t e => by cases e
theorem putE_grow_cell {env : Ev} (h : GrowE env) (x : Str) (i : Nat) : GrowE (putE x (.cell i) env) := h.put fun t e => by cases e
theorem deps_mem : ∀ {ds : List Deed} {d : Deed}, d ∈ ds → dep d ≤ deps ds
  | [], _, h => by cases h
  | a :: ds, d, h => by
    simp only [deps]
    rcases List.mem_cons.mp h with e | e
    · rw [e]; exact Nat.le_max_left _ _
    · exact Nat.le_trans (deps_mem e) (Nat.le_max_right _ _)
section
variable {L : Pl} {rs : List RS} {rules : List Rule} {j A : Nat}
mutual
theorem den_impl (ap : Apart L) (hL : L.rules = encRs rules) (RO : RulOk L rules rs j A) (gr : GrowR rs) : ∀ (d : Deed) (k : Nat) {K : List Str} {env : Ev} {S0 : Sto} {c r m b : Nat}, dep d ≤ k → okD (szs (rules.take j)) K d → EnvOk L S0 c r m b env K → b + k ≤ 1000 → GrowE env → Impl L S0 c (den rs d env) (enc d) r (m + 5 + k * (A + 2))
  | .num i, k, K, env, S0, c, r, m, b, _, _, E, _, _ => impl_num.up Frm.refl (Nat.le_refl _) (by omega)
  | .nam x, k, K, env, S0, c, r, m, b, _, h, E, _, _ => (impl_nam E h.1 h.2).up Frm.refl (Nat.le_refl _) (by omega)
  | .dod x, k, K, env, S0, c, r, m, b, _, h, E, _, _ => (impl_dod E h.1 h.2).up Frm.refl (Nat.le_refl _) (by omega)
  | .ask, k, K, env, S0, c, r, m, b, _, _, E, _, _ => (impl_ask ap).up Frm.refl (Nat.le_refl _) (by omega)
  | .rd x, k, K, env, S0, c, r, m, b, _, h, E, _, _ => (impl_rd ap E h).up Frm.refl (Nat.le_refl _) (by omega)
  | .wr x a, 0, K, env, S0, c, r, m, b, hk, _, _, _, _ => by simp [dep] at hk
  | .say a, 0, K, env, S0, c, r, m, b, hk, _, _, _, _ => by simp [dep] at hk
  | .lt x a e, 0, K, env, S0, c, r, m, b, hk, _, _, _, _ => by simp [dep] at hk
  | .own x a e, 0, K, env, S0, c, r, m, b, hk, _, _, _, _ => by simp [dep] at hk
  | .iff a e f, 0, K, env, S0, c, r, m, b, hk, _, _, _, _ => by simp [dep] at hk
  | .two w a e, 0, K, env, S0, c, r, m, b, hk, _, _, _, _ => by simp [dep] at hk
  | .call i ps hs, 0, K, env, S0, c, r, m, b, hk, _, _, _, _ => by simp [dep] at hk
  | .wr x a, k + 1, K, env, S0, c, r, m, b, hk, h, E, hb, ge => by
    simp only [dep] at hk
    have := impl_wr (x := x) ap E ge gr (den_impl ap hL RO gr a k (by omega) h.2 E (by omega) ge) (by omega) h.1
    exact this.up Frm.refl (Nat.le_refl _) (by rw [Nat.succ_mul]; omega)
  | .say a, k + 1, K, env, S0, c, r, m, b, hk, h, E, hb, ge => by
    simp only [dep] at hk
    have := impl_say ap (den_impl ap hL RO gr a k (by omega) h E (by omega) ge) (by omega)
    exact this.up Frm.refl (Nat.le_refl _) (by rw [Nat.succ_mul]; omega)
  | .lt x a e, k + 1, K, env, S0, c, r, m, b, hk, h, E, hb, ge => by
    simp only [dep] at hk
    have := impl_lt (x := x) (bd := e) E (by omega) ge gr h.1 (den_impl ap hL RO gr a k (by omega) h.2.1 E (by omega) ge) (fun v S1 r1 c1 E1 => den_impl ap hL RO gr e k (by omega) h.2.2 E1 (by omega) (putE_grow_int ge x v)) (by omega)
    exact this.up Frm.refl (Nat.le_refl _) (by rw [Nat.succ_mul]; omega)
  | .own x a e, k + 1, K, env, S0, c, r, m, b, hk, h, E, hb, ge => by
    simp only [dep] at hk
    have := impl_own (x := x) (bd := e) ap E (by omega) ge gr h.1 (den_impl ap hL RO gr a k (by omega) h.2.1 E (by omega) ge) (fun v S1 r1 c1 E1 => den_impl ap hL RO gr e k (by omega) h.2.2 E1 (by omega) (putE_grow_cell ge x v)) (by omega)
    exact this.up Frm.refl (Nat.le_refl _) (by rw [Nat.succ_mul]; omega)
  | .iff a e f, k + 1, K, env, S0, c, r, m, b, hk, h, E, hb, ge => by
    simp only [dep] at hk
    have := impl_iff ge gr (den_impl ap hL RO gr a k (by omega) h.1 E (by omega) ge) (den_impl ap hL RO gr e k (by omega) h.2.1 E (by omega) ge) (den_impl ap hL RO gr f k (by omega) h.2.2 E (by omega) ge) (by omega)
    exact this.up Frm.refl (Nat.le_refl _) (by rw [Nat.succ_mul]; omega)
  | .two w a e, k + 1, K, env, S0, c, r, m, b, hk, h, E, hb, ge => by
    simp only [dep] at hk
    have := impl_two (w := w) ge gr (den_impl ap hL RO gr a k (by omega) h.1 E (by omega) ge) (den_impl ap hL RO gr e k (by omega) h.2 E (by omega) ge) (by omega)
    exact this.up Frm.refl (Nat.le_refl _) (by rw [Nat.succ_mul]; omega)
  | .call i ps hs, k + 1, K, env, S0, c, r, m, b, hk, h, E, hb, ge => by
    simp only [dep] at hk
    have hsz := h.1
    rw [szs_take] at hsz
    have hij : i < j := by
      have := (List.getElem?_eq_some_iff.mp hsz).1
      rw [List.length_take] at this
      omega
    rw [List.getElem?_take_of_lt hij] at hsz
    have := impl_call hL RO hij hsz E.r ge gr (M := m + 5 + k * (A + 2)) (fun q hq => dens_impl ap hL RO gr ps k (by omega) h.2.1 E (by omega) ge q hq) (fun q hq => dens_impl ap hL RO gr hs k (by omega) h.2.2 E (by omega) ge q hq) (by omega)
    exact this.up Frm.refl (Nat.le_refl _) (by rw [Nat.succ_mul]; omega)
theorem dens_impl (ap : Apart L) (hL : L.rules = encRs rules) (RO : RulOk L rules rs j A) (gr : GrowR rs) : ∀ (ds : List Deed) (k : Nat) {K : List Str} {env : Ev} {S0 : Sto} {c r m b : Nat}, deps ds ≤ k → okDs (szs (rules.take j)) K ds → EnvOk L S0 c r m b env K → b + k ≤ 1000 → GrowE env → ∀ d ∈ ds, Impl L S0 c (den rs d env) (enc d) r (m + 5 + k * (A + 2))
  | [], k, K, env, S0, c, r, m, b, _, _, _, _, _, d, hd => by cases hd
  | a :: ds, k, K, env, S0, c, r, m, b, hk, h, E, hb, ge, d, hd => by
    simp only [deps] at hk
    by_cases e : d = a
    · rw [e]
      exact den_impl ap hL RO gr a k (by omega) h.1 E hb ge
    · exact dens_impl ap hL RO gr ds k (by omega) h.2 E hb ge d (by rcases List.mem_cons.mp hd with q | q; · exact absurd q e
                                                                    · exact q)
end
end
def rsem : List Rule → List RS := fun l => l.foldl (fun acc r => acc ++ [fun ws ts => den acc r.b (callE r ws ts)]) []
theorem rsem_snoc (l : List Rule) (r : Rule) : rsem (l ++ [r]) = rsem l ++ [fun ws ts => den (rsem l) r.b (callE r ws ts)] := by
  unfold rsem
  rw [List.foldl_append]
  rfl
theorem snoc_ind {α : Type} {P : List α → Prop} (h0 : P []) (h1 : ∀ l a, P l → P (l ++ [a])) : ∀ l, P l := fun l => by
  have : ∀ l : List α, P l.reverse := fun l => by
    induction l with
    | nil => exact h0
    | cons a l ih => rw [List.reverse_cons]; exact h1 _ _ ih
  have q := this l.reverse
  rwa [List.reverse_reverse] at q
theorem rsem_len : ∀ l : List Rule, (rsem l).length = l.length := snoc_ind rfl fun l r ih => by rw [rsem_snoc]; simp [ih]
theorem rsem_get : ∀ (l : List Rule) (i : Nat) (r : Rule), l[i]? = some r → (rsem l)[i]? = some fun ws ts => den (rsem (l.take i)) r.b (callE r ws ts) := snoc_ind (by intro i r h; simp at h) fun l a ih i r h => by
  rw [rsem_snoc]
  by_cases hi : i < l.length
  · rw [List.getElem?_append_left hi] at h
    rw [List.getElem?_append_left (by rw [rsem_len]; exact hi), List.take_append_of_le_length (by omega)]
    exact ih i r h
  · have e : i = l.length := by
      have := (List.getElem?_eq_some_iff.mp h).1
      simp at this
      omega
    subst e
    rw [List.getElem?_append_right (Nat.le_refl _), Nat.sub_self] at h
    cases h
    rw [List.getElem?_append_right (by rw [rsem_len]; exact Nat.le_refl _), rsem_len, Nat.sub_self, List.take_left]
    rfl
theorem callE_grow {r : Rule} {ws : List Int} {ts : List Thk} (h : ∀ t ∈ ts, Grow t) : GrowE (callE r ws ts) := fun x t e => by
  unfold callE envOf at e
  rw [List.lookup_append] at e
  have lk : ∀ {xs : List Str} {es : List EV} {v : EV}, (xs.zip es).lookup x = some v → v ∈ es := by
    intro xs
    induction xs with
    | nil => intro es v h; simp at h
    | cons a xs ih =>
      intro es v h
      cases es with
      | nil => simp at h
      | cons b es =>
        simp only [List.zip_cons_cons, List.lookup_cons] at h
        split at h
        · cases h; exact List.mem_cons_self
        · exact List.mem_cons_of_mem _ (ih h)
  cases h1 : (r.ns.zip (ws.map EV.int)).lookup x with
  | some v =>
    rw [h1] at e
    have m := lk h1
    cases e
    obtain ⟨w, _, q⟩ := List.mem_map.mp m
    cases q
  | none =>
    rw [h1] at e
    have m := lk (show (r.hs.zip (ts.map EV.th)).lookup x = some (.th t) from e)
    obtain ⟨w, hw, q⟩ := List.mem_map.mp m
    cases q
    exact h t hw
theorem rsem_grow : ∀ l : List Rule, GrowR (rsem l) := snoc_ind (fun f h => by cases h) fun l r ih f hf ws ts ht => by
  rw [rsem_snoc] at hf
  rcases List.mem_append.mp hf with h | h
  · exact ih f h ws ts ht
  · rw [List.mem_singleton.mp h]
    exact den_grow ih _ (callE_grow ht)
structure RsRun (rules : List Rule) : Prop where
  ok : okRs rules
  dep : ∀ r ∈ rules, dep r.b ≤ 2
  sz : ∀ r ∈ rules, r.ns.length ≤ 100 ∧ r.hs.length ≤ 100
theorem kd_apart {r : Rule} {sz : List (Nat × Nat)} (o : okRl sz r) : (r.ns ++ r.hs).Nodup := List.nodup_append.mpr ⟨o.nn, o.nh, fun a ha b hb e => by
  have h1 := o.n a ha
  have h2 := o.h b hb
  rw [e] at h1
  omega⟩
def lvl : Nat → Nat
  | 0 => 0
  | j + 1 => 5 + 2 * (lvl j + 2)
theorem lvl_mono {i j : Nat} (h : i ≤ j) : lvl i ≤ lvl j := by
  induction h with
  | refl => exact Nat.le_refl _
  | step _ ih => exact Nat.le_trans ih (by show _ ≤ 5 + 2 * (lvl _ + 2); omega)
theorem take_all {α : Type} {l : List α} {i : Nat} {a : α} (h : l[i]? = some a) (j : Nat) (hj : i < j) : (l.take j)[i]? = some a := by
  rw [List.getElem?_take_of_lt hj]
  exact h
theorem rules_run {L : Pl} {rules : List Rule} (ap : Apart L) (hL : L.rules = encRs rules) (R : RsRun rules) : ∀ j, j ≤ rules.length → RulOk L rules (rsem (rules.take j)) j (lvl j)
  | 0, _ => fun i h => by omega
  | j + 1, hj => by
    intro i hi
    have il : i < rules.length := by omega
    have ih := rules_run ap hL R i (by omega)
    have e1 : rules[i]? = some rules[i] := List.getElem?_eq_getElem il
    have o := R.ok i _ e1
    have hm := List.getElem_mem il
    have e2 := rsem_get (rules.take (j + 1)) i rules[i] (take_all e1 _ hi)
    rw [List.take_take, Nat.min_eq_left (by omega)] at e2
    refine ⟨rules[i], _, e1, e2, kd_apart o, o.n, o.h, (R.sz _ hm).1, (R.sz _ hm).2, fun S c ρ m ws ts hw ht E gt => ?_⟩
    have := den_impl ap hL ih (rsem_grow _) rules[i].b 2 (R.dep _ hm) (by simpa using o.b) E (by have := R.sz _ hm; omega) (callE_grow gt)
    exact this.up Frm.refl (Nat.le_refl _) (by
      have := lvl_mono (show i + 1 ≤ j + 1 by omega)
      simp only [lvl] at this ⊢
      omega)
structure RlA (rules : List Rule) (A : Nat) : Prop where
  ok : okRs rules
  sz : ∀ r ∈ rules, r.ns.length ≤ 100 ∧ r.hs.length ≤ 100
  imp : ∀ (L : Pl), Apart L → L.rules = encRs rules → RulOk L rules (rsem (rules.take rules.length)) rules.length A
theorem RsRun.rl {rules : List Rule} (R : RsRun rules) : RlA rules (lvl rules.length) := ⟨R.ok, R.sz, fun L ap hL => rules_run ap hL R rules.length (Nat.le_refl _)⟩
end DL
namespace DL
open PySem L2
def kept0 (s : List Int) : Str → Int := fun x => ((abcd.zip s).lookup x).getD 0
def st0 (s asked : List Int) : Stt := ⟨kept0 s, asked, 0, [], [], []⟩
end DL
namespace DL
open PySem L2
theorem eMake {c : Str} {np : Nat} {F : Fn} {r : DenA} {ε : Env} {S S1 S2 : Sto} {ds : List D} (hr : r ε S = .ok ds S1) (k : F (.ref S1.length :: ds) (S1 ++ [.ins c []]) = .ok .non S2) (hl : ds.length + 1 = np := by rfl) : dMake c np F r ε S = .ok (.ref S1.length) S2 := by
  unfold dMake
  rw [hr, x_bind, if_pos hl, k, x_bind]
theorem pre_get {B S : Sto} {n : Nat} {o : O} (h : B <+: S) (e : B[n]? = some o) : S[n]? = some o := by
  obtain ⟨T, rfl⟩ := h
  rw [List.getElem?_append_left (List.getElem?_eq_some_iff.mp e).1]
  exact e
end DL
namespace DL
open PySem L2
abbrev RW := List Int → Int
mutual
def wt (rw : List RW) (hw : Str → Int) : Deed → Int
  | .num _ => 1 | .nam _ => 1 | .ask => 1 | .rd _ => 1
  | .dod x => hw x
  | .wr _ a => 1 + [wt rw hw a].sum
  | .say a => 1 + [wt rw hw a].sum
  | .lt _ a b => 1 + [wt rw hw a, wt rw hw b].sum
  | .own _ a b => 1 + [wt rw hw a, wt rw hw b].sum
  | .iff a b c => 1 + [wt rw hw a, wt rw hw b, wt rw hw c].sum
  | .two .lop a b => 1 + wt rw hw a + 3 * wt rw hw b
  | .two _ a b => 1 + [wt rw hw a, wt rw hw b].sum
  | .call i ps hs => 1 + (wtL rw hw ps).sum + ((rw[i]?).getD fun _ => 0) (wtL rw hw hs)
def wtL (rw : List RW) (hw : Str → Int) : List Deed → List Int
  | [] => []
  | d :: ds => wt rw hw d :: wtL rw hw ds
end
theorem wtL_map (rw : List RW) (hw : Str → Int) : ∀ ds : List Deed, wtL rw hw ds = ds.map (wt rw hw)
  | [] => rfl
  | d :: ds => by rw [wtL, wtL_map rw hw ds]; rfl
def hwOf (hs : List Str) (ws : List Int) : Str → Int := fun x => ((hs.zip ws).lookup x).getD 1
def rwt : List Rule → List RW := fun l => l.foldl (fun acc r => acc ++ [fun ws => wt acc (hwOf r.hs ws) r.b]) []
theorem rwt_snoc (l : List Rule) (r : Rule) : rwt (l ++ [r]) = rwt l ++ [fun ws => wt (rwt l) (hwOf r.hs ws) r.b] := by
  unfold rwt
  rw [List.foldl_append]
  rfl
theorem rwt_len : ∀ l : List Rule, (rwt l).length = l.length := snoc_ind rfl fun l r ih => by rw [rwt_snoc]; simp [ih]
theorem rwt_get : ∀ (l : List Rule) (i : Nat) (r : Rule), l[i]? = some r → (rwt l)[i]? = some fun ws => wt (rwt (l.take i)) (hwOf r.hs ws) r.b := snoc_ind (by intro i r h; simp at h) fun l a ih i r h => by
  rw [rwt_snoc]
  by_cases hi : i < l.length
  · rw [List.getElem?_append_left hi] at h
    rw [List.getElem?_append_left (by rw [rwt_len]; exact hi), List.take_append_of_le_length (by omega)]
    exact ih i r h
  · have e : i = l.length := by
      have := (List.getElem?_eq_some_iff.mp h).1
      simp at this
      omega
    subst e
    rw [List.getElem?_append_right (Nat.le_refl _), Nat.sub_self] at h
    cases h
    rw [List.getElem?_append_right (by rw [rwt_len]; exact Nat.le_refl _), rwt_len, Nat.sub_self, List.take_left]
    rfl
section
variable {B : Sto}
theorem lc_pure2 {src : Src} {g : GDen} {c : DenB} {e : Den} {vs : List Nat} {ε : Env} {xs : List D} {os : List (Option D)} (hsrc : ∀ S', B <+: S' → src S' = some xs) (hlen : xs.length = os.length) (hx : ∀ (i : Nat) (x : D) (o : Option D), xs[i]? = some x → os[i]? = some o → ∃ ε', (∀ S, g x (wipeE ε vs) S = some ε') ∧ PurB B c ε' o.isSome ∧ ∀ v, o = some v → PurE B e ε' v) (hl : xs.length ≤ 1000) :
    ∀ (k i : Nat) (acc : List D) (S : Sto), i + k = xs.length → acc.length ≤ i → B <+: S → ∃ E, lcI src g c e vs ε (k + 1) i acc S = .ok (acc ++ (os.drop i).filterMap id) (S ++ E)
  | 0, i, acc, S, hk, ha, hS => by
    refine ⟨[], ?_⟩
    unfold lcI
    have e1 : xs[i]? = none := List.getElem?_eq_none (by omega)
    have e2 : os.drop i = [] := List.drop_eq_nil_of_le (by omega)
    simp only [hsrc S hS, e1, e2]
    simp
  | k + 1, i, acc, S, hk, ha, hS => by
    have hi : i < xs.length := by omega
    have e1 : xs[i]? = some xs[i] := List.getElem?_eq_getElem hi
    have e1' : os[i]? = some os[i] := List.getElem?_eq_getElem (by omega)
    obtain ⟨ε', hg, hc, he⟩ := hx i _ _ e1 e1'
    obtain ⟨E1, e2⟩ := hc S hS
    have e3 : os.drop i = os[i] :: os.drop (i + 1) := List.drop_eq_getElem_cons (by omega)
    unfold lcI
    simp only [hsrc S hS, e1, hg, e2, noX, x_bind]
    rw [e3]
    cases ho : os[i] with
    | some v =>
      obtain ⟨E2, e4⟩ := he v ho (S ++ E1) (pre_app hS)
      obtain ⟨E3, e5⟩ := lc_pure2 hsrc hlen hx hl k (i + 1) (acc ++ [v]) (S ++ E1 ++ E2) (by omega) (by simp; omega) (pre_app (pre_app hS))
      refine ⟨E1 ++ E2 ++ E3, ?_⟩
      simp only [Option.isSome_some, if_true, e4, noX, x_bind]
      rw [if_pos (show acc.length < big from Nat.lt_of_lt_of_le (show acc.length < 1001 by omega) (by decide)), e5]
      simp
    | none =>
      obtain ⟨E3, e5⟩ := lc_pure2 hsrc hlen hx hl k (i + 1) acc (S ++ E1) (by omega) (by omega) (pre_app hS)
      refine ⟨E1 ++ E3, ?_⟩
      simp only [Option.isSome_none, Bool.false_eq_true, if_false, e5]
      simp
theorem pLc2 {it : IDen} {g : GDen} {c : DenB} {e : Den} {vs : List Nat} {ε : Env} {xs : List D} (os : List (Option D)) (hi : PurI B it ε xs) (hlen : xs.length = os.length) (hx : ∀ (i : Nat) (x : D) (o : Option D), xs[i]? = some x → os[i]? = some o → ∃ ε', (∀ S, g x (wipeE ε vs) S = some ε') ∧ PurB B c ε' o.isSome ∧ ∀ v, o = some v → PurE B e ε' v) (hl : xs.length ≤ 1000) : PurL B (dLc it g c e vs) ε (os.filterMap id) := fun S hS => by
  obtain ⟨E, src, e1, hs⟩ := hi S hS
  obtain ⟨E2, e2⟩ := lc_pure2 (B := S ++ E) (os := os) hs hlen (fun i x o h1 h2 => by
    obtain ⟨ε', a, b, k⟩ := hx i x o h1 h2
    exact ⟨ε', a, fun S' hS' => b S' ((pre_app hS).trans hS'), fun v q S' hS' => k v q S' ((pre_app hS).trans hS')⟩) hl xs.length 0 [] (S ++ E) (by omega) (by simp) (List.prefix_refl _)
  refine ⟨E ++ E2, ?_⟩
  unfold dLc
  rw [e1, x_bind]
  simp only [hs (S ++ E) (List.prefix_refl _), e2, x_bind, lcEnd]
  simp
theorem pLc3 {it : IDen} {g : GDen} {e : Den} {vs : List Nat} {ε : Env} {xs : List D} (os : List D) (hi : PurI B it ε xs) (hlen : xs.length = os.length) (hx : ∀ (i : Nat) (x o : D), xs[i]? = some x → os[i]? = some o → ∃ ε', (∀ S, g x (wipeE ε vs) S = some ε') ∧ PurE B e ε' o) (hl : xs.length ≤ 1000) : PurL B (dLc it g bYes e vs) ε os := by
  have := pLc2 (c := bYes) (os.map some) hi (by simpa using hlen) (fun i x o h1 h2 => by
    rw [List.getElem?_map] at h2
    cases h3 : os[i]? with
    | none => rw [h3] at h2; cases h2
    | some v =>
      rw [h3] at h2
      cases h2
      obtain ⟨ε', a, b⟩ := hx i x v h1 h3
      exact ⟨ε', a, bYes_pure, fun w q => by cases q; exact b⟩) hl
  simpa [List.filterMap_map] using this
def WEnv (B : Sto) (r : Nat) (hw : Str → Int) : Prop := ∃ kvs, B[r]? = some (.dct kvs) ∧ ∀ x, (valD kvs (.inr x)).getD (.int 1) = .int (hw x)
theorem WEnv.up {B' : Sto} {r : Nat} {hw : Str → Int} (h : WEnv B r hw) (hB : B <+: B') : WEnv B' r hw := by
  obtain ⟨kvs, e, q⟩ := h
  exact ⟨kvs, pre_get hB e, q⟩
end
end DL
namespace DL
open PySem L2
section
variable {B : Sto} {a b : Den} {ba : DenB} {ε : Env} {d : D} {t : Bool} {ds : List D} {g : GDen} {w : SDen} {fl : Fl}
theorem pZ (h : ZE a ε d) : PurE B a ε d := fun S _ => ⟨[], by rw [h S]; simp⟩
theorem pZB (h : ZB ba ε t) : PurB B ba ε t := fun S _ => ⟨[], by rw [h S]; simp⟩
theorem pLetL {ε' : Nat → Env} (ha : PurL B a ε ds) (hg : ∀ k S, g (.ref k) ε S = some (ε' k)) (hw : ∀ (B' : Sto) (k : Nat), B <+: B' → B'[k]? = some (.lst ds) → PurS B' w (ε' k) fl) : PurS B (sSeq (sAsg a g) w) ε fl := pLetAt fun S hS => by
  obtain ⟨E, e⟩ := ha S hS
  refine ⟨E ++ [.lst ds], _, _, by rw [e, List.append_assoc], hg _, ?_⟩
  refine hw _ _ (pre_app hS) ?_
  rw [← List.append_assoc]
  exact getLast_app
theorem pLetD {ε' : Nat → Env} {kvs : List (Key × D)} (ha : PurL B a ε ds) (hk : fall pairD ds = some kvs) (hg : ∀ k S, g (.ref k) ε S = some (ε' k)) (hw : ∀ (B' : Sto) (k : Nat), B <+: B' → B'[k]? = some (.dct (mergeD [] kvs)) → PurS B' w (ε' k) fl) : PurS B (sSeq (sAsg (dFn fDict (dCons a dNil)) g) w) ε fl := pLetAt fun S hS => by
  obtain ⟨E, e⟩ := ha S hS
  refine ⟨E ++ [.lst ds] ++ [.dct (mergeD [] kvs)], .ref (S ++ E ++ [O.lst ds]).length, _, ?_, hg _, ?_⟩
  · rw [eFn (eCons e eNil) (fDict_list getLast_app hk)]
    simp
  · refine hw _ _ (pre_app hS) ?_
    rw [← List.append_assoc, ← List.append_assoc]
    exact getLast_app
theorem pGetL {i k : Nat} {j : Int} {x : D} (ha : PurE B a ε (.ref k)) (hk : B[k]? = some (.lst ds)) (h : atI ds j = some x) : PurE B (dBin oGet a (dC (.int j))) ε x := fun S hS => by
  obtain ⟨E, e⟩ := ha S hS
  exact ⟨E, eBin e (eZ zC) (eGetL (pre_get (pre_app hS) hk) h)⟩
theorem pSumR {k : Nat} {ns : List Int} (ha : PurE B a ε (.ref k)) (hk : B[k]? = some (.lst (ns.map .int))) : PurE B (dFn fSum (dCons a dNil)) ε (.int ns.sum) := fun S hS => by
  obtain ⟨E, e⟩ := ha S hS
  refine ⟨E, eFn (eCons e eNil) ?_⟩
  unfold fSum fLst
  have q : litems (S ++ E) (.ref k) = some (ns.map .int) := by
    unfold litems
    simp only [pre_get (pre_app hS) hk]
  simp only [q, fall_intD]
theorem pGet2 {r : Nat} {hw : Str → Int} {x : Str} {k c : Den} (hW : WEnv B r hw) (ha : ZE a ε (.ref r)) (hk : ZE k ε (.str x)) (hc : ZE c ε (.int 1)) : PurE B (dGet2 a k c) ε (.int (hw x)) := fun S hS => by
  obtain ⟨kvs, e, q⟩ := hW
  refine ⟨[], ?_⟩
  rw [eGet2 ha hk hc (pre_get hS e) (rfl : keyD (.str x) = some (.inr x)), q x]
  simp
end
theorem lk_map {β γ : Type} {f : β → γ} {x : Str} : ∀ {xs : List Str} {ys : List β}, (xs.zip (ys.map f)).lookup x = ((xs.zip ys).lookup x).map f
  | [], _ => by simp
  | a :: xs, [] => by simp
  | a :: xs, b :: ys => by
    simp only [List.map_cons, List.zip_cons_cons, List.lookup_cons]
    split
    · rfl
    · exact lk_map
theorem tupD_isi {S : Sto} : ∀ d : Deed, isiD "tuple" S (enc d) = some true
  | .num _ => rfl | .nam _ => rfl | .dod _ => rfl | .ask => rfl | .rd _ => rfl | .wr _ _ => rfl | .say _ => rfl | .lt _ _ _ => rfl | .own _ _ _ => rfl | .iff _ _ _ => rfl | .two _ _ _ => rfl | .call _ _ _ => rfl
theorem strD_isi {S : Sto} {x : Str} : isiD "tuple" S (.str x) = some false := rfl
theorem pIsi {B : Sto} {a : Den} {ε : Env} {d : D} {t : Bool} {cn : String} (ha : ZE a ε d) (h : ∀ S, isiD cn S d = some t) : PurB B (dTest (dIsi cn a)) ε t := fun S _ => ⟨[], by rw [eTest (eIsi (eZ ha) (h S))]; simp⟩
section
variable {rules : List Rule} {j A : Nat} {rw' : List RW}
def RwOk (rules : List Rule) (rw' : List RW) (j A : Nat) : Prop := ∀ i < j, ∃ r f, rules[i]? = some r ∧ rw'[i]? = some f ∧ r.hs.Nodup ∧ r.ns.length ≤ 100 ∧ r.hs.length ≤ 100 ∧
  ∀ (B : Sto) (ρ n : Nat) (ws : List Int), ws.length = r.hs.length → A ≤ n → WEnv B ρ (hwOf r.hs ws) → PurR B (csem n .f__law_weight [encRs rules, enc r.b, .ref ρ]) (.int (f ws))
theorem inner_sem {B : Sto} {n r : Nat} {hw : Str → Int} {ε : Env} {wd : Str} {ds : List D} {ps : List Deed} {xs : List Str} {dd : D} (h0 : ε = [some (encRs rules), some (.tup (.str wd :: ds)), some (.ref r), some (.str wd), none, none, none, none, none]) (hds : ds = xs.map D.str ++ ps.map enc) (hl : xs.length + ps.length ≤ 100)
    (I : ∀ q ∈ ps, PurR B (csem n .f__law_weight [encRs rules, enc q, .ref r]) (.int (wt rw' hw q))) :
    PurL B (dLc (iAny (dSl (dVar 1) (dPart (dC (.int 1))) dNoPart)) (gN 8) (dTest (dIsi "tuple" (dVar 8))) (dCall 3 (csem n .f__law_weight) (dCons (dVar 0) (dCons (dVar 8) (dCons (dVar 2) dNil)))) [8]) ε ((ps.map (wt rw' hw)).map .int) := by
  subst h0
  have hi : PurI B (iAny (dSl (dVar 1) (dPart (dC (.int 1))) dNoPart)) [some (encRs rules), some (.tup (.str wd :: ds)), some (.ref r), some (.str wd), none, none, none, none, none] ds := by
    have := piTup (B := B) (pSl0 (a := dVar 1) (b := dC (.int 1)) (ε := [some (encRs rules), some (.tup (.str wd :: ds)), some (.ref r), some (.str wd), none, none, none, none, none]) (j := 1) (pV (i := 1) (d := .tup (.str wd :: ds))) pC)
    have e : cutD (.str wd :: ds) (some 1) none = ds := by
      unfold cutD
      rw [show (some (1 : Int)) = some ((1 : Nat) : Int) from rfl, HT.sIx_nat, HT.sIx_none, Nat.min_eq_left (by simp)]
      simp
    rw [e] at this
    exact this
  have h := pLc2 (g := gN 8) (vs := [8]) (c := dTest (dIsi "tuple" (dVar 8))) (e := dCall 3 (csem n .f__law_weight) (dCons (dVar 0) (dCons (dVar 8) (dCons (dVar 2) dNil)))) (xs.map (fun _ => (none : Option D)) ++ ps.map fun q => some (.int (wt rw' hw q))) hi (by rw [hds]; simp) (fun i x o h1 h2 => by
    refine ⟨_, fun S => rfl, ?_⟩
    rw [hds] at h1
    by_cases hx : i < xs.length
    · rw [List.getElem?_append_left (by simpa using hx), List.getElem?_map, List.getElem?_eq_getElem hx] at h1 h2
      cases h1; cases h2
      exact ⟨pIsi zV fun _ => strD_isi, fun v q => by cases q⟩
    · rw [List.getElem?_append_right (by simp; omega), List.getElem?_map, List.length_map] at h1 h2
      cases hp : ps[i - xs.length]? with
      | none => rw [hp] at h1; cases h1
      | some q =>
        rw [hp] at h1 h2
        cases h1; cases h2
        exact ⟨pIsi zV fun _ => tupD_isi q, fun v e => by
          cases e
          exact pCallR (pK pV (pK pV (pK pV pN))) (I q (List.mem_of_getElem? hp))⟩) (by rw [hds]; simp; omega)
  have e : List.filterMap id (xs.map (fun _ => (none : Option D)) ++ ps.map fun q => some (D.int (wt rw' hw q))) = (ps.map (wt rw' hw)).map .int := by
    rw [List.filterMap_append, List.filterMap_map, List.filterMap_map]
    have a : List.filterMap (id ∘ fun _ : Str => (none : Option D)) xs = [] := by induction xs <;> simp_all
    rw [a]
    simp [List.map_map, Function.comp_def]
  rw [e] at h
  exact h
theorem wt_plain {B : Sto} {n r : Nat} {hw : Str → Int} {wd : Str} {ds : List D} {ps : List Deed} {xs : List Str} (hwd : wd ∈ (["write", "say", "let", "own", "if", "then", "add", "less"] : List Str)) (hds : ds = xs.map D.str ++ ps.map enc) (hl : xs.length + ps.length ≤ 100)
    (I : ∀ q ∈ ps, PurR B (csem (n + 1) .f__law_weight [encRs rules, enc q, .ref r]) (.int (wt rw' hw q))) : PurR B (csem (n + 2) .f__law_weight [encRs rules, .tup (.str wd :: ds), .ref r]) (.int (1 + (ps.map (wt rw' hw)).sum)) := by
  rw [cs_f__law_weight]
  refine pur_runR ?_
  unfold b_f__law_weight
  refine pLet (pZ (zG zV atI_0)) (fun _ => rfl) ?_
  have t1 : ∀ {ε : Env}, ε[3]? = some (some (.str wd)) → ZB (dTest (dBin oIn (dVar 3) (dTup (dCons (dC (.str "number")) (dCons (dC (.str "name")) (dCons (dC (.str "ask")) (dCons (dC (.str "read")) dNil))))))) ε false := fun {ε} h => by
    simp only [List.mem_cons, List.not_mem_nil, or_false] at hwd
    rcases hwd with rfl | rfl | rfl | rfl | rfl | rfl | rfl | rfl
    all_goals exact zIn (qs := ["number", "name", "ask", "read"]) (zV h) (fun _ => rfl)
  have t2 : ∀ {ε : Env} (q : Str), q ∈ (["do", "call", "loop"] : List Str) → ε[3]? = some (some (.str wd)) → ZB (dTest (dBin oEq (dVar 3) (dC (.str q)))) ε false := fun {ε} q hq h => by
    have : ∀ a ∈ (["write", "say", "let", "own", "if", "then", "add", "less"] : List Str), ∀ b ∈ (["do", "call", "loop"] : List Str), decide (a = b) = false := by decide +kernel
    exact zEqS (zV h) (this wd hwd q hq)
  refine pSkip (pZB (t1 rfl)) (pSkip (pZB (t2 "do" (by simp) rfl)) (pSkip (pZB (t2 "call" (by simp) rfl)) ?_))
  refine pLetL (inner_sem (dd := .non) rfl hds hl I) (fun _ _ => rfl) fun B' k hB hk => ?_
  exact pSkip (pZB (t2 "loop" (by simp) rfl)) (pRet (pAdd pC (pSumR pV hk)))
end
end DL
namespace DL
open PySem L2
section
variable {rules : List Rule} {j A : Nat} {rw' : List RW} {B : Sto} {n r : Nat} {hw : Str → Int}
theorem wt_leaf {wd : Str} {ds : List D} (hwd : wd ∈ (["number", "name", "ask", "read"] : List Str)) : PurR B (csem (n + 2) .f__law_weight [encRs rules, .tup (.str wd :: ds), .ref r]) (.int 1) := by
  rw [cs_f__law_weight]
  refine pur_runR ?_
  unfold b_f__law_weight
  refine pLet (pZ (zG zV atI_0)) (fun _ => rfl) ?_
  refine pTake (pZB (zIn (qs := ["number", "name", "ask", "read"]) zV (fun _ => rfl) (by simp) (decide_eq_true hwd))) (pRet pC)
theorem wt_dod {x : Str} (hW : WEnv B r hw) : PurR B (csem (n + 2) .f__law_weight [encRs rules, enc (.dod x), .ref r]) (.int (hw x)) := by
  rw [cs_f__law_weight]
  refine pur_runR ?_
  unfold b_f__law_weight
  refine pLet (pZ (zG zV)) (fun _ => rfl) ?_
  exact pSkip (pZB (zIn (qs := ["number", "name", "ask", "read"]) zV (fun _ => rfl))) (pTake (pZB (zEqS zV)) (pRet (pGet2 hW zV (zG zV) zC)))
theorem wt_lop {a b : Deed} (Ia : PurR B (csem (n + 1) .f__law_weight [encRs rules, enc a, .ref r]) (.int (wt rw' hw a))) (Ib : PurR B (csem (n + 1) .f__law_weight [encRs rules, enc b, .ref r]) (.int (wt rw' hw b))) :
    PurR B (csem (n + 2) .f__law_weight [encRs rules, enc (.two .lop a b), .ref r]) (.int (1 + wt rw' hw a + 3 * wt rw' hw b)) := by
  rw [cs_f__law_weight]
  refine pur_runR ?_
  unfold b_f__law_weight
  refine pLet (pZ (zG zV)) (fun _ => rfl) ?_
  refine pSkip (pZB (zIn (qs := ["number", "name", "ask", "read"]) (zV (d := .str "loop")) (fun _ => rfl))) (pSkip (pZB (zEqS (zV (d := .str "loop")))) (pSkip (pZB (zEqS (zV (d := .str "loop")))) ?_))
  refine pLetL (inner_sem (rw' := rw') (hw := hw) (xs := []) (ps := [a, b]) (dd := .non) (wd := "loop") (ds := [enc a, enc b]) rfl rfl (by simp) (fun q hq => by
    simp only [List.mem_cons, List.not_mem_nil, or_false] at hq
    rcases hq with rfl | rfl
    · exact Ia
    · exact Ib)) (fun _ _ => rfl) fun B' k hB hk => ?_
  refine pTake (pZB (zEqS (zV (d := .str "loop")))) (pRet (pAdd (pAdd pC (pGetL (i := 0) pV hk rfl)) (pMulL pC (pGetL (i := 0) pV hk rfl))))
theorem wt_call {i : Nat} {ps hs : List Deed} {ru : Rule} {f : RW} (e1 : rules[i]? = some ru) (nd : ru.hs.Nodup) (hh : ru.hs.length = hs.length) (hpl : ps.length ≤ 1000) (hhl : hs.length ≤ 1000)
    (Ip : ∀ q ∈ ps, PurR B (csem (n + 1) .f__law_weight [encRs rules, enc q, .ref r]) (.int (wt rw' hw q))) (Ih : ∀ q ∈ hs, PurR B (csem (n + 1) .f__law_weight [encRs rules, enc q, .ref r]) (.int (wt rw' hw q)))
    (body : ∀ (B' : Sto) (ρ : Nat), WEnv B' ρ (hwOf ru.hs (wtL rw' hw hs)) → PurR B' (csem (n + 1) .f__law_weight [encRs rules, enc ru.b, .ref ρ]) (.int (f (wtL rw' hw hs)))) :
    PurR B (csem (n + 2) .f__law_weight [encRs rules, enc (.call i ps hs), .ref r]) (.int (1 + (wtL rw' hw ps).sum + f (wtL rw' hw hs))) := by
  rw [cs_f__law_weight]
  refine pur_runR ?_
  unfold b_f__law_weight
  refine pLet (pZ (zG zV)) (fun _ => rfl) ?_
  have il : i < rules.length := (List.getElem?_eq_some_iff.mp e1).1
  have ai : atI rules (i : Int) = some ru := by rw [atI_in (by omega) (by omega), Int.toNat_natCast, e1]
  refine pSkip (pZB (zIn (qs := ["number", "name", "ask", "read"]) zV (fun _ => rfl))) (pSkip (pZB (zEqS zV)) (pTake (pZB (zEqS zV)) ?_))
  -- there
  let ws := wtL rw' hw hs
  have hws : ws.length = hs.length := by show (wtL rw' hw hs).length = _; rw [wtL_map]; simp
  let z : List (Str × D) := ru.hs.zip (ws.map .int)
  have zk : z.map (·.1) = ru.hs := List.map_fst_zip (by simp [hws, hh])
  have it1 : PurI B (iZipD (dBin oGet (dBin oGet (dVar 0) (dBin oGet (dVar 1) (dC (.int 1)))) (dC (.int 1))) (dBin oGet (dVar 1) (dC (.int 3)))) [some (encRs rules), some (enc (.call i ps hs)), some (.ref r), some (.str "call"), none, none, none, none, none] (pairs (ru.hs.map .str) (encs hs)) :=
    piZip (xs := ru.hs.map .str) (ys := encs hs) (pO (d := encR ru) (e := .int 1) (pGetRule (i := (i : Int)) pV (pZ (zG zV)) ai) pC fun S => rfl) (pZ (zG zV)) (pairs_unt ru.hs hs)
  have pl : (pairs (ru.hs.map D.str) (encs hs)).length = hs.length := by rw [pairs_ln (by rw [encs_map]; simpa using hh), List.length_map, hh]
  have lc1 := pLc3 (g := gT 2 (gsCons (gN 7) (gsCons (gN 8) gsNil))) (vs := [7, 8]) (e := dTup (dCons (dVar 7) (dCons (dCall 3 (csem (n + 1) .f__law_weight) (dCons (dVar 0) (dCons (dVar 8) (dCons (dVar 2) dNil)))) dNil))) (z.map fun q => D.tup [.str q.1, q.2]) it1 (by rw [pl]; simp [z, hws, hh]) (fun k x o h1 h2 => by
    have hk : k < hs.length := by
      have := (List.getElem?_eq_some_iff.mp h1).1
      omega
    have e := pairs_ix (xs := ru.hs.map D.str) (ys := encs hs) (i := k) (a := .str ru.hs[k]) (b := enc hs[k]) (by rw [List.getElem?_map, List.getElem?_eq_getElem (by omega)]; rfl) (by rw [encs_map, List.getElem?_map, List.getElem?_eq_getElem hk]; rfl)
    rw [h1] at e
    cases e
    have ez : z[k]? = some (ru.hs[k], .int (wt rw' hw hs[k])) := by
      show (ru.hs.zip (ws.map D.int))[k]? = _
      rw [List.getElem?_zip_eq_some]
      refine ⟨List.getElem?_eq_getElem (by omega), ?_⟩
      show ((wtL rw' hw hs).map D.int)[k]? = _
      rw [wtL_map, List.map_map, List.getElem?_map, List.getElem?_eq_getElem hk]
      rfl
    rw [List.getElem?_map, ez] at h2
    cases h2
    exact ⟨_, fun S => rfl, pT (pK pV (pK (pCallR (pK pV (pK pV (pK pV pN))) (Ih _ (List.getElem_mem hk))) pN))⟩) (by omega)
  have em : mergeD [] (z.map fun q => ((.inr q.1 : Key), q.2)) = z.map fun q => ((.inr q.1 : Key), q.2) := by
    rw [mergeD_new _ [] (by
      rw [List.nil_append, List.map_map]
      have : ((·.1) ∘ fun q : Str × D => ((.inr q.1 : Key), q.2)) = Sum.inr ∘ (·.1) := rfl
      rw [this, ← List.map_map, zk]
      exact nodup_map (fun a b q => Sum.inr.inj q) nd)]
    rfl
  refine pLetD lc1 (fall_pairs (f := Prod.fst) (g := Prod.snd) z) (fun _ _ => rfl) fun B' k hB hk => ?_
  rw [em] at hk
  have hWk : WEnv B' k (hwOf ru.hs ws) := ⟨_, hk, fun x => by
    rw [valD_lookup]
    show ((ru.hs.zip (ws.map D.int)).lookup x).getD (.int 1) = .int (((ru.hs.zip ws).lookup x).getD 1)
    rw [lk_map]
    cases (ru.hs.zip ws).lookup x <;> rfl⟩
  -- the worths
  have it2 : PurI B' (iAny (dBin oGet (dVar 1) (dC (.int 2)))) [some (encRs rules), some (enc (.call i ps hs)), some (.ref r), some (.str "call"), some (.ref k), none, none, none, none] (encs ps) := piTup (pZ (zG zV))
  have lc2 := pLc3 (g := gN 8) (vs := [8]) (e := dCall 3 (csem (n + 1) .f__law_weight) (dCons (dVar 0) (dCons (dVar 8) (dCons (dVar 2) dNil)))) ((wtL rw' hw ps).map D.int) it2 (by rw [encs_map, wtL_map]; simp) (fun k x o h1 h2 => by
    rw [encs_map, List.getElem?_map] at h1
    rw [wtL_map, List.map_map, List.getElem?_map] at h2
    cases hp : ps[k]? with
    | none => rw [hp] at h1; cases h1
    | some q =>
      rw [hp] at h1 h2
      cases h1; cases h2
      exact ⟨_, fun S => rfl, pCallR (pK pV (pK pV (pK pV pN))) ((Ip q (List.mem_of_getElem? hp)).up hB)⟩) (by rw [encs_map]; simpa using hpl)
  refine pLet (pSumL lc2) (fun _ => rfl) ?_
  refine pRet (pAdd (pAdd pC pV) (pCallR (pK pV (pK (pO (d := encR ru) (e := .int 2) (pGetRule (i := (i : Int)) pV (pZ (zG zV)) ai) pC fun S => rfl) (pK pV pN))) (body B' k hWk)))
mutual
theorem weight_sem (RO : RwOk rules rw' j A) : ∀ (d : Deed) (k n : Nat) {K : List Str} {B : Sto} {r : Nat} {hw : Str → Int}, dep d ≤ k → okD (szs (rules.take j)) K d → WEnv B r hw → k + 2 + A ≤ n → PurR B (csem n .f__law_weight [encRs rules, enc d, .ref r]) (.int (wt rw' hw d))
  | _, _, 0, _, _, _, _, _, _, _, h => by omega
  | _, _, 1, _, _, _, _, _, _, _, h => by omega
  | .num i, k, n + 2, K, B, r, hw, _, _, _, _ => wt_leaf (by simp)
  | .nam i, k, n + 2, K, B, r, hw, _, _, _, _ => wt_leaf (by simp)
  | .ask, k, n + 2, K, B, r, hw, _, _, _, _ => wt_leaf (by simp)
  | .rd i, k, n + 2, K, B, r, hw, _, _, _, _ => wt_leaf (by simp)
  | .dod x, k, n + 2, K, B, r, hw, _, _, hW, _ => wt_dod hW
  | .wr x a, k, n + 2, K, B, r, hw, hk, h, hW, hn => by
    simp only [dep] at hk
    exact wt_plain (xs := [x]) (ps := [a]) (ds := [.str x, enc a]) (by simp) rfl (by simp) (fun q hq => by
      rw [List.mem_singleton.mp hq]
      exact weight_sem RO a (k - 1) (n + 1) (by omega) h.2 hW (by omega))
  | .say a, k, n + 2, K, B, r, hw, hk, h, hW, hn => by
    simp only [dep] at hk
    exact wt_plain (xs := []) (ps := [a]) (ds := [enc a]) (by simp) rfl (by simp) (fun q hq => by
      rw [List.mem_singleton.mp hq]
      exact weight_sem RO a (k - 1) (n + 1) (by omega) h hW (by omega))
  | .lt x a b, k, n + 2, K, B, r, hw, hk, h, hW, hn => by
    simp only [dep] at hk
    have Ia := weight_sem RO a (k - 1) (n + 1) (by omega) h.2.1 hW (by omega)
    have Ib := weight_sem RO b (k - 1) (n + 1) (by omega) h.2.2 hW (by omega)
    exact wt_plain (xs := [x]) (ps := [a, b]) (ds := [.str x, enc a, enc b]) (by simp) rfl (by simp) (fun q hq => by
      simp only [List.mem_cons, List.not_mem_nil, or_false] at hq
      rcases hq with e | e
      · rw [e]; exact Ia
      · rw [e]; exact Ib)
  | .own x a b, k, n + 2, K, B, r, hw, hk, h, hW, hn => by
    simp only [dep] at hk
    have Ia := weight_sem RO a (k - 1) (n + 1) (by omega) h.2.1 hW (by omega)
    have Ib := weight_sem RO b (k - 1) (n + 1) (by omega) h.2.2 hW (by omega)
    exact wt_plain (xs := [x]) (ps := [a, b]) (ds := [.str x, enc a, enc b]) (by simp) rfl (by simp) (fun q hq => by
      simp only [List.mem_cons, List.not_mem_nil, or_false] at hq
      rcases hq with e | e
      · rw [e]; exact Ia
      · rw [e]; exact Ib)
  | .iff a b c, k, n + 2, K, B, r, hw, hk, h, hW, hn => by
    simp only [dep] at hk
    have Ia := weight_sem RO a (k - 1) (n + 1) (by omega) h.1 hW (by omega)
    have Ib := weight_sem RO b (k - 1) (n + 1) (by omega) h.2.1 hW (by omega)
    have Ic := weight_sem RO c (k - 1) (n + 1) (by omega) h.2.2 hW (by omega)
    exact wt_plain (xs := []) (ps := [a, b, c]) (ds := [enc a, enc b, enc c]) (by simp) rfl (by simp) (fun q hq => by
      simp only [List.mem_cons, List.not_mem_nil, or_false] at hq
      rcases hq with e | e | e
      · rw [e]; exact Ia
      · rw [e]; exact Ib
      · rw [e]; exact Ic)
  | .two w a b, k, n + 2, K, B, r, hw, hk, h, hW, hn => by
    simp only [dep] at hk
    have Ia := weight_sem RO a (k - 1) (n + 1) (by omega) h.1 hW (by omega)
    have Ib := weight_sem RO b (k - 1) (n + 1) (by omega) h.2 hW (by omega)
    have hp : ∀ q ∈ [a, b], PurR B (csem (n + 1) .f__law_weight [encRs rules, enc q, .ref r]) (.int (wt rw' hw q)) := fun q hq => by
      simp only [List.mem_cons, List.not_mem_nil, or_false] at hq
      rcases hq with e | e
      · rw [e]; exact Ia
      · rw [e]; exact Ib
    cases w with
    | lop => exact wt_lop Ia Ib
    | thn => exact wt_plain (xs := []) (ps := [a, b]) (ds := [enc a, enc b]) (by simp [Two.w]) rfl (by simp) hp
    | add => exact wt_plain (xs := []) (ps := [a, b]) (ds := [enc a, enc b]) (by simp [Two.w]) rfl (by simp) hp
    | les => exact wt_plain (xs := []) (ps := [a, b]) (ds := [enc a, enc b]) (by simp [Two.w]) rfl (by simp) hp
  | .call i ps hs, k, n + 2, K, B, r, hw, hk, h, hW, hn => by
    simp only [dep] at hk
    have hsz := h.1
    rw [szs_take] at hsz
    have hij : i < j := by
      have := (List.getElem?_eq_some_iff.mp hsz).1
      rw [List.length_take] at this
      omega
    rw [List.getElem?_take_of_lt hij] at hsz
    obtain ⟨ru, f, e1, e2, nd, l1, l2, body⟩ := RO i hij
    have hl1 : ru.ns.length = ps.length ∧ ru.hs.length = hs.length := by
      unfold szs at hsz
      rw [List.getElem?_map, e1] at hsz
      simpa using hsz
    have := wt_call (rw' := rw') (hw := hw) (f := f) (B := B) (n := n) (r := r) e1 nd hl1.2 (by omega) (by omega) (fun q hq => weights_sem RO ps (k - 1) (n + 1) (by omega) h.2.1 hW (by omega) q hq) (fun q hq => weights_sem RO hs (k - 1) (n + 1) (by omega) h.2.2 hW (by omega) q hq)
      (fun B' ρ hW' => body B' ρ (n + 1) _ (by rw [wtL_map]; simp; omega) (by omega) hW')
    unfold wt
    simp only [e2, Option.getD_some]
    exact this
theorem weights_sem (RO : RwOk rules rw' j A) : ∀ (ds : List Deed) (k n : Nat) {K : List Str} {B : Sto} {r : Nat} {hw : Str → Int}, deps ds ≤ k → okDs (szs (rules.take j)) K ds → WEnv B r hw → k + 2 + A ≤ n → ∀ q ∈ ds, PurR B (csem n .f__law_weight [encRs rules, enc q, .ref r]) (.int (wt rw' hw q))
  | [], k, n, K, B, r, hw, _, _, _, _, q, hq => by cases hq
  | a :: ds, k, n, K, B, r, hw, hk, h, hW, hn, q, hq => by
    simp only [deps] at hk
    by_cases e : q = a
    · rw [e]
      exact weight_sem RO a k n (by omega) h.1 hW hn
    · exact weights_sem RO ds k n (by omega) h.2 hW hn q (by rcases List.mem_cons.mp hq with z | z; · exact absurd z e
                                                             · exact z)
end
end
end DL
namespace DL
open PySem L2
theorem rw_ok {rules : List Rule} (R : RsRun rules) : ∀ j, j ≤ rules.length → RwOk rules (rwt (rules.take j)) j (4 * j)
  | 0, _ => fun i h => by omega
  | j + 1, hj => by
    intro i hi
    have il : i < rules.length := by omega
    have ih := rw_ok R i (by omega)
    have e1 : rules[i]? = some rules[i] := List.getElem?_eq_getElem il
    have o := R.ok i _ e1
    have hm := List.getElem_mem il
    have e2 := rwt_get (rules.take (j + 1)) i rules[i] (take_all e1 _ hi)
    rw [List.take_take, Nat.min_eq_left (by omega)] at e2
    refine ⟨rules[i], _, e1, e2, o.nh, (R.sz _ hm).1, (R.sz _ hm).2, fun B ρ n ws hw hn hW => ?_⟩
    exact weight_sem ih rules[i].b 2 n (R.dep _ hm) o.b hW (by omega)
structure Gb1 (a b : Stt) (w : Int) : Prop where
  m : (b.marks.length : Int) ≤ a.marks.length + w
  s : (b.spoken.length : Int) ≤ a.spoken.length + w
  c : (b.cells.length : Int) ≤ a.cells.length + w
def Gb (t : Thk) (w : Int) : Prop := ∀ st, Gb1 st (t st).2 w
theorem Gb1.trans {a b c : Stt} {v w : Int} (x : Gb1 a b v) (y : Gb1 b c w) : Gb1 a c (v + w) := ⟨by have := x.m; have := y.m; omega, by have := x.s; have := y.s; omega, by have := x.c; have := y.c; omega⟩
theorem Gb1.mono {a b : Stt} {v w : Int} (x : Gb1 a b v) (h : v ≤ w) : Gb1 a b w := ⟨by have := x.m; omega, by have := x.s; omega, by have := x.c; omega⟩
theorem Gb1.refl {a : Stt} {w : Int} (h : 0 ≤ w) : Gb1 a a w := ⟨by omega, by omega, by omega⟩
def GbE (env : Ev) (hw : Str → Int) : Prop := (∀ x, 0 ≤ hw x) ∧ ∀ x t, env x = some (.th t) → Gb t (hw x)
theorem GbE.put {env : Ev} {hw : Str → Int} {x : Str} {v : EV} (h : GbE env hw) (hv : ∀ t, v ≠ .th t) : GbE (putE x v env) hw := ⟨h.1, fun y t e => by
  unfold putE at e
  split at e
  · cases e; exact absurd rfl (hv t)
  · exact h.2 y t e⟩
theorem lk_mem {α : Type} {x : Str} {v : α} : ∀ {xs : List Str} {es : List α}, (xs.zip es).lookup x = some v → ∃ i : Nat, xs[i]? = some x ∧ es[i]? = some v ∧ (xs.zip es).lookup x = es[i]?
  | [], _, h => by simp at h
  | a :: xs, [], h => by simp at h
  | a :: xs, b :: es, h => by
    simp only [List.zip_cons_cons, List.lookup_cons] at h ⊢
    by_cases q : x = a
    · subst q
      simp at h
      subst h
      exact ⟨0, by simp⟩
    · have q2 : (x == a) = false := by simpa using q
      rw [q2] at h ⊢
      obtain ⟨i, h1, h2, h3⟩ := lk_mem h
      exact ⟨i + 1, by simpa using h1, by simpa using h2, by simpa using h3⟩
def env0 : Ev := fun _ => none
theorem RsLaw.run {rs : List Rule} (R : RsLaw rs) : RsRun rs := ⟨R.r.ok, R.dep, R.r.len⟩
theorem pick_abcd (ns : List Int) (t : Int) {v : Str} {S : Sto} (hp : atI abcd (drw ns t (abcd.length : Int)) = some v) : oGet (.str "abcd") (.int (drw ns t 4)) S = .ok (.str v) S := by
  have hp' : atI abcd (drw ns t 4) = some v := hp
  have h0 := drw_lo ns t (m := 4) (by decide)
  have h1 := drw_hi ns t (m := 4) (by decide)
  generalize drw ns t 4 = j at hp' h0 h1
  have : j = 0 ∨ j = 1 ∨ j = 2 ∨ j = 3 := by omega
  rcases this with rfl | rfl | rfl | rfl <;> (cases hp'; rfl)
theorem light_sem (ns : List Int) (hl : ns.length ≤ 63) {rs : List Rule} (R : RsLaw rs) (deep n : Nat) (hd : deep ≤ 50) (hn : 2 * deep + 20 ≤ n) (t : Int) (ht : 0 ≤ t) :
    ∃ d, Pur (csem n .f__law_light [scr ns, .int t, .int deep, encRs rs]) (enc d) ∧ okD (szs rs) [] d ∧ dep d ≤ deep ∧ wt (rwt rs) (fun _ => 1) d ≤ 80 := by
  obtain ⟨n, rfl⟩ : ∃ j, n = j + 4 := ⟨n - 4, by omega⟩
  obtain ⟨d, hds, hdo, hdd⟩ := deed_sem ns hl R.r deep (n + 3) t [] [] [] (by omega) ht kn_nil (by simp; omega) (by simp; omega)
  have hdo' : okD (szs rs) [] d := hdo
  have RO := rw_ok R.run rs.length (Nat.le_refl _)
  rw [List.take_length] at RO
  have hW : ∀ S : Sto, PurR [] (fun S => csem (n + 3) .f__law_weight [encRs rs, enc d, .ref S.length] (S ++ [.dct []])) (.int 0) ∨ True := fun _ => .inr trivial
  have wS : ∀ S, ∃ E, dCall 3 (csem (n + 3) .f__law_weight) (dCons (dVar 3) (dCons (dVar 4) (dCons dNewK dNil))) [some (scr ns), some (.int t), some (.int deep), some (encRs rs), some (enc d)] S = .ok (.int (wt (rwt rs) (fun _ => 1) d)) (S ++ E) := fun S => by
    have := weight_sem RO d deep (n + 3) (K := []) (B := S ++ [.dct []]) (r := S.length) (hw := fun _ => 1) hdd (by rw [List.take_length]; exact hdo') ⟨[], by simp, fun x => rfl⟩ (by have := R.len; omega) (S ++ [.dct []]) (List.prefix_refl _)
    obtain ⟨E, e⟩ := this
    refine ⟨[.dct []] ++ E, ?_⟩
    refine eCall (eCons (eZ zV) (eCons (eZ zV) (eCons (rfl : dNewK _ S = .ok (.ref S.length) (S ++ [.dct []])) eNil))) ?_
    rw [e]
    simp
  by_cases hc : wt (rwt rs) (fun _ => 1) d ≤ 80
  · refine ⟨d, ?_, hdo', hdd, hc⟩
    rw [cs_f__law_light]
    refine pur_run ?_
    unfold b_f__law_light
    refine pLet (pCall (pK pV (pK pV (pK pV (pK (pT (pK (pT pN) (pK (pT pN) (pK (pT pN) pN)))) (pK pV pN))))) hds) (fun _ => rfl) ?_
    refine pSkip (pB (pO (fun S _ => wS S) pC fun S => ?_)) (pRet pV)
    rw [x_gtI]
    congr 2
    simp
    omega
  · obtain ⟨v, hv, hp⟩ := drw_pick ns t (l := abcd) (by simp [abcd])
    refine ⟨.rd v, ?_, .inr hv, Nat.zero_le _, by simp [wt]⟩
    rw [cs_f__law_light]
    refine pur_run ?_
    unfold b_f__law_light
    refine pLet (pCall (pK pV (pK pV (pK pV (pK (pT (pK (pT pN) (pK (pT pN) (pK (pT pN) pN)))) (pK pV pN))))) hds) (fun _ => rfl) ?_
    refine pTake (pB (pO (fun S _ => wS S) pC fun S => ?_)) (pRet (pT (pK pC (pK ?_ pN))))
    · rw [x_gtI]
      congr 2
      simp
      omega
    · refine pO pC (pDrawn hl ht (by decide) pV pV pC) fun S => ?_
      exact pick_abcd ns t hp
end DL
namespace DL
open PySem L2
def In (v : Int) : Prop := 0 ≤ v ∧ v ≤ 1008
end DL
namespace DL
open PySem L2
section
end
end DL
namespace DL
open PySem L2
structure Clo (P : Thk → Prop) : Prop where
  ret : ∀ v : Int, P fun st => (v, st)
  bind : ∀ (t : Thk) (k : Int → Thk), P t → (∀ v, P (k v)) → P fun st => k (t st).1 (t st).2
  ask : P tAskd
  read : ∀ x, P (tRead x)
  wrt : ∀ x v, P (tWrt x v)
  say : ∀ v, P (tSayd v)
  cell : ∀ i : Nat, P fun st => ((st.cells[i]?).getD 0, st)
  setC : ∀ (i : Nat) (v : Int), P fun st => (v, st.setC i v)
  push : ∀ (v : Int) (k : Nat → Thk), (∀ i, P (k i)) → P fun st => k st.cells.length (st.push v)
def CloE (P : Thk → Prop) (env : Ev) : Prop := ∀ x t, env x = some (.th t) → P t
section
variable {P : Thk → Prop}
theorem CloE.put {env : Ev} {x : Str} {v : EV} (h : CloE P env) (hv : ∀ t, v ≠ .th t) : CloE P (putE x v env) := fun y t e => by
  unfold putE at e
  split at e
  · cases e; exact absurd rfl (hv t)
  · exact h y t e
theorem Clo.iter (C : Clo P) {t : Thk} (h : P t) : ∀ n : Nat, P fun st => (0, iterT t n st)
  | 0 => C.ret 0
  | n + 1 => C.bind t (fun _ => fun st => (0, iterT t n st)) h fun _ => C.iter h n
end
end DL
namespace DL
open PySem L2
def aw (A : List Int) (k : Nat) : Int := (A[k]?).getD 0
def isAsk : D → Option Int
  | .tup [.str w, .int v] => if w = "ask" then some v else none
  | _ => none
def asksOf (ms : List D) : List Int := ms.filterMap isAsk
structure Asks (a b : Stt) : Prop where
  q : b.asked = a.asked
  m : a.many ≤ b.many
  l : asksOf b.marks = asksOf a.marks ++ (List.range' a.many (b.many - a.many)).map (aw a.asked)
theorem Asks.refl {a : Stt} : Asks a a := ⟨rfl, Nat.le_refl _, by simp⟩
theorem Asks.trans {a b c : Stt} (x : Asks a b) (y : Asks b c) : Asks a c := by
  refine ⟨y.q.trans x.q, Nat.le_trans x.m y.m, ?_⟩
  rw [y.l, x.l, x.q, List.append_assoc, ← List.map_append]
  congr 2
  have h1 := x.m
  have h2 := y.m
  have e : c.many - a.many = (b.many - a.many) + (c.many - b.many) := by omega
  rw [e, ← List.range'_append_1]
  congr 2
  omega
end DL
namespace DL
open PySem L2
structure Wd where
  w : Nat
  kept : Nat
  spoken : Nat
  marks : Nat
  asked : Nat
def Wd.mut (W : Wd) : List Nat := [W.w, W.kept, W.spoken, W.marks]
def wdF (W : Wd) (many : Nat) : List (Str × D) := [("kept", .ref W.kept), ("asked", .ref W.asked), ("many", .int many), ("spoken", .ref W.spoken), ("marks", .ref W.marks)]
structure WRep (W : Wd) (S : Sto) (st : Stt) : Prop where
  w : S[W.w]? = some (.ins "World" (wdF W st.many))
  kept : S[W.kept]? = some (.dct (keptD st.kept))
  spoken : S[W.spoken]? = some (.lst (st.spoken.map .int))
  marks : S[W.marks]? = some (.lst st.marks)
  asked : S[W.asked]? = some (.lst (st.asked.map .int))
structure WFrm (W : Wd) (S S' : Sto) : Prop where
  len : S.length ≤ S'.length
  keep : ∀ n o, n ∉ W.mut → S[n]? = some o → S'[n]? = some o
theorem WFrm.refl {W : Wd} {S : Sto} : WFrm W S S := ⟨Nat.le_refl _, fun _ _ _ h => h⟩
theorem WFrm.trans {W : Wd} {S S' S'' : Sto} (a : WFrm W S S') (b : WFrm W S' S'') : WFrm W S S'' := ⟨Nat.le_trans a.len b.len, fun n o h e => b.keep n o h (a.keep n o h e)⟩
theorem WFrm.app {W : Wd} {S E : Sto} : WFrm W S (S ++ E) := ⟨by simp, fun n o _ e => pre_get (List.prefix_append _ _) e⟩
structure WApart (W : Wd) : Prop where
  nd : W.mut.Nodup
  asked : W.asked ∉ W.mut
theorem WRep.app {W : Wd} {S : Sto} {st : Stt} (R : WRep W S st) (E : Sto) : WRep W (S ++ E) st := by
  have g : ∀ {n o}, S[n]? = some o → (S ++ E)[n]? = some o := fun {n o} e => pre_get (List.prefix_append _ _) e
  exact ⟨g R.w, g R.kept, g R.spoken, g R.marks, g R.asked⟩
theorem WRep.lt {W : Wd} {S : Sto} {st : Stt} (R : WRep W S st) : (∀ k ∈ W.mut, k < S.length) ∧ W.asked < S.length := by
  refine ⟨fun k h => ?_, (List.getElem?_eq_some_iff.mp R.asked).1⟩
  simp only [Wd.mut, List.mem_cons, List.not_mem_nil, or_false] at h
  rcases h with rfl | rfl | rfl | rfl
  · exact (List.getElem?_eq_some_iff.mp R.w).1
  · exact (List.getElem?_eq_some_iff.mp R.kept).1
  · exact (List.getElem?_eq_some_iff.mp R.spoken).1
  · exact (List.getElem?_eq_some_iff.mp R.marks).1
def Stt.fresh (s : Stt) : Stt := ⟨s.kept, s.asked, s.many, s.spoken, s.marks, []⟩
end DL
namespace DL
open PySem L2
end DL
set_option maxHeartbeats 300000
namespace DL
open PySem L2
end DL
set_option maxHeartbeats 1000000
namespace DL
open PySem L2
def RefL (B : Sto) (a : Den) (ε : Env) (ds : List D) : Prop := ∀ S, B <+: S → ∃ E k, a ε S = .ok (.ref k) (S ++ E) ∧ (S ++ E)[k]? = some (.lst ds)
section
variable {B : Sto} {a b c : Den} {ε : Env} {ds es : List D} {g : GDen} {w : SDen} {fl : Fl}
theorem PurL.ref (h : PurL B a ε ds) : RefL B a ε ds := fun S hS => by
  obtain ⟨E, e⟩ := h S hS
  exact ⟨E ++ [.lst ds], _, by rw [e, List.append_assoc], by rw [← List.append_assoc]; exact getLast_app⟩
end
end DL
namespace DL
open PySem L2
section
end
end DL
namespace DL
open PySem L2
structure CloS (P : Thk → Prop) : Prop where
  ret : ∀ v : Int, P fun st => (v, st)
  bind : ∀ (t : Thk) (k : Int → Thk), P t → (∀ v, P (k v)) → P fun st => k (t st).1 (t st).2
  ask : P tAskd
  read : ∀ x ∈ abcd, P (tRead x)
  wrt : ∀ x ∈ abcd, ∀ v, P (tWrt x v)
  say : ∀ v, P (tSayd v)
  cell : ∀ i : Nat, P fun st => ((st.cells[i]?).getD 0, st)
  setC : ∀ (i : Nat) (v : Int), P fun st => (v, st.setC i v)
  push : ∀ (v : Int) (k : Nat → Thk), (∀ i, P (k i)) → P fun st => k st.cells.length (st.push v)
section
variable {P : Thk → Prop}
theorem CloS.iter (C : CloS P) {t : Thk} (h : P t) : ∀ n : Nat, P fun st => (0, iterT t n st)
  | 0 => C.ret 0
  | n + 1 => C.bind t (fun _ => fun st => (0, iterT t n st)) h fun _ => C.iter h n
end
end DL
namespace DL
open PySem L2
def RsPre (rs rs' : List RS) : Prop := ∀ (i : Nat) (f : RS), rs[i]? = some f → rs'[i]? = some f
mutual
theorem den_pre {rs rs' : List RS} (hp : RsPre rs rs') {sz : List (Nat × Nat)} (hz : sz.length ≤ rs.length) : ∀ (d : Deed) (K : List Str) (env : Ev), okD sz K d → den rs d env = den rs' d env
  | .num i, K, env, h => by simp only [den]
  | .nam x, K, env, h => by simp only [den]
  | .dod x, K, env, h => by simp only [den]
  | .ask, K, env, h => by simp only [den]
  | .rd x, K, env, h => by simp only [den]
  | .wr x a, K, env, h => by simp only [den, den_pre hp hz a K env h.2]
  | .say a, K, env, h => by simp only [den, den_pre hp hz a K env h]
  | .lt x a b, K, env, h => by
    funext st
    simp only [den, den_pre hp hz a K env h.2.1]
    rw [den_pre hp hz b (x :: K) _ h.2.2]
  | .own x a b, K, env, h => by
    funext st
    simp only [den, den_pre hp hz a K env h.2.1]
    rw [den_pre hp hz b (x :: K) _ h.2.2]
  | .iff a b c, K, env, h => by simp only [den, den_pre hp hz a K env h.1, den_pre hp hz b K env h.2.1, den_pre hp hz c K env h.2.2]
  | .two .thn a b, K, env, h => by simp only [den, den_pre hp hz a K env h.1, den_pre hp hz b K env h.2]
  | .two .add a b, K, env, h => by simp only [den, den_pre hp hz a K env h.1, den_pre hp hz b K env h.2]
  | .two .les a b, K, env, h => by simp only [den, den_pre hp hz a K env h.1, den_pre hp hz b K env h.2]
  | .two .lop a b, K, env, h => by simp only [den, den_pre hp hz a K env h.1, den_pre hp hz b K env h.2]
  | .call i ps hs, K, env, h => by
    have hi : i < rs.length := Nat.lt_of_lt_of_le (List.getElem?_eq_some_iff.mp h.1).1 hz
    have e1 := List.getElem?_eq_getElem hi
    have e2 := hp i _ e1
    funext st
    simp only [den, e1, e2, denL_pre hp hz ps K env h.2.1, denT_pre hp hz hs K env h.2.2]
theorem denL_pre {rs rs' : List RS} (hp : RsPre rs rs') {sz : List (Nat × Nat)} (hz : sz.length ≤ rs.length) : ∀ (d : List Deed) (K : List Str) (env : Ev), okDs sz K d → denL rs d env = denL rs' d env
  | [], K, env, h => rfl
  | d :: ds, K, env, h => by
    funext st
    simp only [denL, den_pre hp hz d K env h.1, denL_pre hp hz ds K env h.2]
theorem denT_pre {rs rs' : List RS} (hp : RsPre rs rs') {sz : List (Nat × Nat)} (hz : sz.length ≤ rs.length) : ∀ (d : List Deed) (K : List Str) (env : Ev), okDs sz K d → denT rs d env = denT rs' d env
  | [], K, env, h => rfl
  | d :: ds, K, env, h => by
    simp only [denT, den_pre hp hz d K env h.1, denT_pre hp hz ds K env h.2]
end
theorem rsem_pre (l m : List Rule) : RsPre (rsem l) (rsem (l ++ m)) := fun i f h => by
  have hi : i < l.length := by have := (List.getElem?_eq_some_iff.mp h).1; rw [rsem_len] at this; exact this
  have e := List.getElem?_eq_getElem hi
  rw [rsem_get l i _ e] at h
  have e2 : (l ++ m)[i]? = some l[i] := by rw [List.getElem?_append_left hi]; exact e
  rw [rsem_get (l ++ m) i _ e2, ← h, List.take_append_of_le_length (Nat.le_of_lt hi)]
theorem den_more {l m : List Rule} {d : Deed} {K : List Str} (h : okD (szs l) K d) (env : Ev) : den (rsem (l ++ m)) d env = den (rsem l) d env :=
  (den_pre (rsem_pre l m) (by simp [szs, rsem_len]) d K env h).symm
mutual
def noCall : Deed → Bool
  | .num _ => true | .nam _ => true | .dod _ => true | .ask => true | .rd _ => true
  | .wr _ a => noCall a
  | .say a => noCall a
  | .lt _ a b => noCall a && noCall b
  | .own _ a b => noCall a && noCall b
  | .iff a b c => noCall a && noCall b && noCall c
  | .two _ a b => noCall a && noCall b
  | .call _ _ _ => false
end
theorem okD_noCall {sz : List (Nat × Nat)} : ∀ (d : Deed) (K : List Str), noCall d = true → okD sz K d → okD [] K d
  | .num i, K, _, h => h
  | .nam x, K, _, h => h
  | .dod x, K, _, h => h
  | .ask, K, _, h => h
  | .rd x, K, _, h => h
  | .wr x a, K, n, h => ⟨h.1, okD_noCall a K n h.2⟩
  | .say a, K, n, h => okD_noCall a K n h
  | .lt x a b, K, n, h => by
    simp only [noCall, Bool.and_eq_true] at n
    exact ⟨h.1, okD_noCall a K n.1 h.2.1, okD_noCall b _ n.2 h.2.2⟩
  | .own x a b, K, n, h => by
    simp only [noCall, Bool.and_eq_true] at n
    exact ⟨h.1, okD_noCall a K n.1 h.2.1, okD_noCall b _ n.2 h.2.2⟩
  | .iff a b c, K, n, h => by
    simp only [noCall, Bool.and_eq_true] at n
    exact ⟨okD_noCall a K n.1.1 h.1, okD_noCall b _ n.1.2 h.2.1, okD_noCall c _ n.2 h.2.2⟩
  | .two w a b, K, n, h => by
    simp only [noCall, Bool.and_eq_true] at n
    exact ⟨okD_noCall a K n.1 h.1, okD_noCall b _ n.2 h.2⟩
  | .call i ps hs, K, n, _ => by cases n
def RlJ (rules : List Rule) (j A : Nat) : Prop := ∀ (L : Pl), Apart L → L.rules = encRs rules → RulOk L rules (rsem (rules.take j)) j A
theorem RlJ.zero (rules : List Rule) (A : Nat) : RlJ rules 0 A := fun L ap hL i h => by omega
theorem RlJ.next {rules : List Rule} {j A A' k : Nat} {r : Rule} (h : RlJ rules j A) (e : rules[j]? = some r) (o : okRl (szs (rules.take j)) r) (hn : r.ns.length ≤ 100) (hh : r.hs.length ≤ 100) (hk : dep r.b ≤ k) (hk2 : k ≤ 800) (ha : A ≤ A')
    (hA : (noCall r.b = true ∧ 5 + k * 2 ≤ A') ∨ 5 + k * (A + 2) ≤ A') : RlJ rules (j + 1) A' := fun L ap hL i hi => by
  have jl : j < rules.length := (List.getElem?_eq_some_iff.mp e).1
  by_cases q : i = j
  · subst q
    have e2 := rsem_get (rules.take (i + 1)) i r (take_all e _ (Nat.lt_succ_self _))
    rw [List.take_take, Nat.min_eq_left (by omega)] at e2
    refine ⟨r, _, e, e2, kd_apart o, o.n, o.h, hn, hh, fun S c ρ m ws ts hw ht E gt => ?_⟩
    rcases hA with ⟨nc, hA⟩ | hA
    · have o0 := okD_noCall _ _ nc o.b
      have ed : den (rsem (rules.take i)) r.b (callE r ws ts) = den (rsem []) r.b (callE r ws ts) := by
        have := den_more (l := []) (m := rules.take i) (d := r.b) (K := r.ns ++ r.hs) o0 (callE r ws ts)
        exact this
      simp only [ed]
      have := den_impl (rs := rsem []) (j := 0) (A := 0) ap hL (fun i h => by omega) (rsem_grow _) r.b k hk (by rw [List.take_zero]; exact o0) E (by omega) (callE_grow gt)
      exact this.up Frm.refl (Nat.le_refl _) (by omega)
    · have := den_impl ap hL (h L ap hL) (rsem_grow _) r.b k hk (by simpa using o.b) E (by omega) (callE_grow gt)
      exact this.up Frm.refl (Nat.le_refl _) (by omega)
  · obtain ⟨r', f, a1, a2, a3, a4, a5, a6, a7, a8⟩ := h L ap hL i (by omega)
    have il : i < rules.length := by omega
    have e2 : (rsem (rules.take (j + 1)))[i]? = some f := by
      have := rsem_pre (rules.take j) [r] i f a2
      have tk : rules.take (j + 1) = rules.take j ++ [r] := by rw [List.take_succ, e]; rfl
      rw [tk]
      exact this
    exact ⟨r', f, a1, e2, a3, a4, a5, a6, a7, fun S c ρ m ws ts hw ht E gt => (a8 S c ρ m ws ts hw ht E gt).up Frm.refl (Nat.le_refl _) (by omega)⟩
end DL
namespace DL
open PySem L2
def Stt.pre (c0 : List Int) (s : Stt) : Stt := ⟨s.kept, s.asked, s.many, s.spoken, s.marks, c0 ++ s.cells⟩
def PreC (c0 : List Int) (t t' : Thk) : Prop := ∀ st, t' (st.pre c0) = ((t st).1, (t st).2.pre c0)
inductive EvRel (c0 : List Int) : Option EV → Option EV → Prop
  | non : EvRel c0 none none
  | int (v : Int) : EvRel c0 (some (.int v)) (some (.int v))
  | cell (i : Nat) : EvRel c0 (some (.cell i)) (some (.cell (c0.length + i)))
  | th {t t' : Thk} : PreC c0 t t' → EvRel c0 (some (.th t)) (some (.th t'))
structure EnvRel (c0 : List Int) (K : List Str) (env env' : Ev) : Prop where
  k : ∀ x ∈ K, EvRel c0 (env x) (env' x)
  a : ∀ x ∈ abcd, env x = none ∧ env' x = none
theorem kd0_abcd : ∀ x ∈ abcd, kd x = 0 := by decide +kernel
theorem EnvRel.put {c0 : List Int} {K : List Str} {env env' : Ev} (h : EnvRel c0 K env env') {x : Str} (hx : kd x ≠ 0) {v v' : EV} (r : EvRel c0 (some v) (some v')) : EnvRel c0 (x :: K) (putE x v env) (putE x v' env') := by
  refine ⟨fun y hy => ?_, fun y hy => ?_⟩
  · unfold putE
    by_cases q : y = x
    · rw [if_pos q, if_pos q]; exact r
    · rw [if_neg q, if_neg q]
      rcases List.mem_cons.mp hy with z | z
      · exact absurd z q
      · exact h.k y z
  · have ne : ¬ y = x := fun q => hx (q ▸ kd0_abcd y hy)
    unfold putE
    rw [if_neg ne, if_neg ne]
    exact h.a y hy
section
variable {c0 : List Int}
theorem PreC.iter {t t' : Thk} (h : PreC c0 t t') : ∀ (n : Nat) (st : Stt), iterT t' n (st.pre c0) = (iterT t n st).pre c0
  | 0, st => rfl
  | n + 1, st => by
    unfold iterT
    rw [h st]
    exact PreC.iter h n _
theorem lookup_app {α : Type} {x : Str} {a b : List (Str × α)} : (a ++ b).lookup x = (a.lookup x).or (b.lookup x) := by
  induction a with
  | nil => simp
  | cons p a ih =>
    obtain ⟨y, v⟩ := p
    simp only [List.cons_append, List.lookup_cons]
    split
    · rfl
    · exact ih
theorem lookup_notin {α : Type} {x : Str} : ∀ {ns : List Str} {vs : List α}, x ∉ ns → (ns.zip vs).lookup x = none
  | [], _, _ => by simp
  | y :: ns, [], _ => by simp
  | y :: ns, v :: vs, h => by
    rw [List.zip_cons_cons, List.lookup_cons]
    have : (x == y) = false := by simp only [beq_eq_false_iff_ne]; exact fun q => h (q ▸ List.mem_cons_self)
    simp only [this]
    exact lookup_notin fun q => h (List.mem_cons_of_mem _ q)
theorem okRl.abcd {sz : List (Nat × Nat)} {r : Rule} (o : okRl sz r) : ∀ x ∈ abcd, x ∉ r.ns ++ r.hs := fun x hx q => by
  have := kd0_abcd x hx
  rcases List.mem_append.mp q with q | q
  · have := o.n x q; omega
  · have := o.h x q; omega
theorem okRs_front {l m : List Rule} (h : okRs (l ++ m)) : okRs l := fun i r e => by
  have hi := (List.getElem?_eq_some_iff.mp e).1
  have := h i r (by rw [List.getElem?_append_left hi]; exact e)
  rwa [List.take_append_of_le_length (by omega)] at this
end
end DL
namespace DL
open PySem L2
inductive T where
  | non | bl (b : Bool) | int (i : Int) | str (s : Str) | tup (ts : List T) | seq (ts : List T) | lst (ts : List T) | dct (kvs : List (Key × T))
mutual
inductive Rd (Φ : Nat → Prop) (S : Sto) : D → T → Prop
  | non : Rd Φ S .non .non
  | bl (b : Bool) : Rd Φ S (.bl b) (.bl b)
  | int (i : Int) : Rd Φ S (.int i) (.int i)
  | str (x : Str) : Rd Φ S (.str x) (.str x)
  | tup {ds : List D} {ts : List T} : Rds Φ S ds ts → Rd Φ S (.tup ds) (.tup ts)
  | seq {ds : List D} {ts : List T} : Rds Φ S ds ts → Rd Φ S (.seq ds) (.seq ts)
  | lst {n : Nat} {ds : List D} {ts : List T} : ¬ Φ n → S[n]? = some (.lst ds) → Rds Φ S ds ts → Rd Φ S (.ref n) (.lst ts)
  | dct {n : Nat} {ds : List (Key × D)} {ts : List (Key × T)} : ¬ Φ n → S[n]? = some (.dct ds) → Rdk Φ S ds ts → Rd Φ S (.ref n) (.dct ts)
inductive Rds (Φ : Nat → Prop) (S : Sto) : List D → List T → Prop
  | nil : Rds Φ S [] []
  | cons {d : D} {ds : List D} {t : T} {ts : List T} : Rd Φ S d t → Rds Φ S ds ts → Rds Φ S (d :: ds) (t :: ts)
inductive Rdk (Φ : Nat → Prop) (S : Sto) : List (Key × D) → List (Key × T) → Prop
  | nil : Rdk Φ S [] []
  | cons {k : Key} {d : D} {ds : List (Key × D)} {t : T} {ts : List (Key × T)} : Rd Φ S d t → Rdk Φ S ds ts → Rdk Φ S ((k, d) :: ds) ((k, t) :: ts)
end
section
variable {Φ Ψ : Nat → Prop} {S S' : Sto}
mutual
theorem Rd.keep (hΦ : ∀ n, n < S.length → Ψ n → Φ n) (hS : ∀ (n : Nat) (o : O), ¬ Φ n → S[n]? = some o → S'[n]? = some o) : ∀ {d : D} {t : T}, Rd Φ S d t → Rd Ψ S' d t
  | _, _, .non => .non
  | _, _, .bl b => .bl b
  | _, _, .int i => .int i
  | _, _, .str x => .str x
  | _, _, .tup r => .tup (Rds.keep hΦ hS r)
  | _, _, .seq r => .seq (Rds.keep hΦ hS r)
  | _, _, .lst n e r => .lst (fun q => n (hΦ _ (List.getElem?_eq_some_iff.mp e).1 q)) (hS _ _ n e) (Rds.keep hΦ hS r)
  | _, _, .dct n e r => .dct (fun q => n (hΦ _ (List.getElem?_eq_some_iff.mp e).1 q)) (hS _ _ n e) (Rdk.keep hΦ hS r)
theorem Rds.keep (hΦ : ∀ n, n < S.length → Ψ n → Φ n) (hS : ∀ (n : Nat) (o : O), ¬ Φ n → S[n]? = some o → S'[n]? = some o) : ∀ {d : List D} {t : List T}, Rds Φ S d t → Rds Ψ S' d t
  | _, _, .nil => .nil
  | _, _, .cons h t => .cons (Rd.keep hΦ hS h) (Rds.keep hΦ hS t)
theorem Rdk.keep (hΦ : ∀ n, n < S.length → Ψ n → Φ n) (hS : ∀ (n : Nat) (o : O), ¬ Φ n → S[n]? = some o → S'[n]? = some o) : ∀ {d : List (Key × D)} {t : List (Key × T)}, Rdk Φ S d t → Rdk Ψ S' d t
  | _, _, .nil => .nil
  | _, _, .cons h t => .cons (Rd.keep hΦ hS h) (Rdk.keep hΦ hS t)
end
mutual
theorem Rd.one : ∀ {d : D} {t u : T}, Rd Φ S d t → Rd Φ S d u → t = u
  | _, _, _, .non, .non => rfl
  | _, _, _, .bl b, .bl _ => rfl
  | _, _, _, .int i, .int _ => rfl
  | _, _, _, .str x, .str _ => rfl
  | _, _, _, .tup r, .tup r' => by rw [Rds.one r r']
  | _, _, _, .seq r, .seq r' => by rw [Rds.one r r']
  | _, _, _, .lst _ e r, .lst _ e' r' => by rw [e] at e'; cases e'; rw [Rds.one r r']
  | _, _, _, .lst _ e r, .dct _ e' r' => by rw [e] at e'; cases e'
  | _, _, _, .dct _ e r, .lst _ e' r' => by rw [e] at e'; cases e'
  | _, _, _, .dct _ e r, .dct _ e' r' => by rw [e] at e'; cases e'; rw [Rdk.one r r']
theorem Rds.one : ∀ {d : List D} {t u : List T}, Rds Φ S d t → Rds Φ S d u → t = u
  | _, _, _, .nil, .nil => rfl
  | _, _, _, .cons h t, .cons h' t' => by rw [Rd.one h h', Rds.one t t']
theorem Rdk.one : ∀ {d : List (Key × D)} {t u : List (Key × T)}, Rdk Φ S d t → Rdk Φ S d u → t = u
  | _, _, _, .nil, .nil => rfl
  | _, _, _, .cons h t, .cons h' t' => by rw [Rd.one h h', Rdk.one t t']
end
theorem Rd.pre (p : S <+: S') {d : D} {t : T} (h : Rd Φ S d t) : Rd Φ S' d t := h.keep (fun _ _ q => q) fun n o _ e => by
  obtain ⟨E, rfl⟩ := p
  rw [List.getElem?_append_left (List.getElem?_eq_some_iff.mp e).1]
  exact e
theorem Rds.pre (p : S <+: S') {d : List D} {t : List T} (h : Rds Φ S d t) : Rds Φ S' d t := h.keep (fun _ _ q => q) fun n o _ e => by
  obtain ⟨E, rfl⟩ := p
  rw [List.getElem?_append_left (List.getElem?_eq_some_iff.mp e).1]
  exact e
theorem Rdk.pre (p : S <+: S') {d : List (Key × D)} {t : List (Key × T)} (h : Rdk Φ S d t) : Rdk Φ S' d t := h.keep (fun _ _ q => q) fun n o _ e => by
  obtain ⟨E, rfl⟩ := p
  rw [List.getElem?_append_left (List.getElem?_eq_some_iff.mp e).1]
  exact e
theorem Rds.len : ∀ {ds : List D} {ts : List T}, Rds Φ S ds ts → ds.length = ts.length
  | _, _, .nil => rfl
  | _, _, .cons _ t => congrArg (· + 1) (Rds.len t)
theorem Rds.app : ∀ {ds es : List D} {ts us : List T}, Rds Φ S ds ts → Rds Φ S es us → Rds Φ S (ds ++ es) (ts ++ us)
  | _, _, _, _, .nil, s => s
  | _, _, _, _, .cons h t, s => .cons h (Rds.app t s)
theorem Rds.get : ∀ {ds : List D} {ts : List T} {i : Nat} {t : T}, Rds Φ S ds ts → ts[i]? = some t → ∃ d, ds[i]? = some d ∧ Rd Φ S d t
  | _, _, _, _, .nil, e => by simp at e
  | _, _, 0, _, .cons h _, e => by simp at e; subst e; exact ⟨_, rfl, h⟩
  | _, _, i + 1, d, .cons _ t, e => by
    obtain ⟨v, h1, h2⟩ := Rds.get (i := i) (t := d) t (by simpa using e)
    exact ⟨v, by simpa using h1, h2⟩
theorem Rds.take : ∀ {ds : List D} {ts : List T} (n : Nat), Rds Φ S ds ts → Rds Φ S (ds.take n) (ts.take n)
  | _, _, 0, _ => by rw [List.take_zero, List.take_zero]; exact .nil
  | _, _, _ + 1, .nil => .nil
  | _, _, n + 1, .cons h t => .cons h (Rds.take n t)
theorem Rds.drop : ∀ {ds : List D} {ts : List T} (n : Nat), Rds Φ S ds ts → Rds Φ S (ds.drop n) (ts.drop n)
  | _, _, 0, r => r
  | _, _, _ + 1, .nil => .nil
  | _, _, n + 1, .cons _ t => Rds.drop n t
theorem Rds.set {d : D} {t : T} (h : Rd Φ S d t) : ∀ {ds : List D} {ts : List T} (n : Nat), Rds Φ S ds ts → Rds Φ S (ds.set n d) (ts.set n t)
  | _, _, _, .nil => .nil
  | _, _, 0, .cons _ t => .cons h t
  | _, _, n + 1, .cons q t => .cons q (Rds.set h n t)
theorem Rds.rep {ds : List D} {ts : List T} (h : Rds Φ S ds ts) : ∀ n : Nat, Rds Φ S (List.replicate n ds).flatten (List.replicate n ts).flatten
  | 0 => .nil
  | n + 1 => by
    rw [List.replicate_succ, List.replicate_succ, List.flatten_cons, List.flatten_cons]
    exact h.app (Rds.rep h n)
theorem Rds.maps {α : Type} {f : α → D} {g : α → T} : ∀ {l : List α}, (∀ a ∈ l, Rd Φ S (f a) (g a)) → Rds Φ S (l.map f) (l.map g)
  | [], _ => .nil
  | a :: r, h => .cons (h a List.mem_cons_self) (Rds.maps fun b hb => h b (List.mem_cons_of_mem _ hb))
end
inductive RT (α : Type) where
  | ok (a : α) | exc (c : Str) | bad
def RT.bind {α β : Type} : RT α → (α → RT β) → RT β
  | .ok a, k => k a
  | .exc c, _ => .exc c
  | .bad, _ => .bad
@[simp] theorem RT.bind_ok {α β : Type} (a : α) (k : α → RT β) : (RT.ok a).bind k = k a := rfl
@[simp] theorem RT.bind_exc {α β : Type} (c : Str) (k : α → RT β) : (RT.exc c : RT α).bind k = .exc c := rfl
@[simp] theorem RT.bind_bad {α β : Type} (k : α → RT β) : (RT.bad : RT α).bind k = .bad := rfl
def Bnd (Φ : Nat → Prop) (S : Sto) : Prop := ∀ n, Φ n → n < S.length
theorem Bnd.pre {Φ : Nat → Prop} {S S' : Sto} (h : Bnd Φ S) (p : S <+: S') : Bnd Φ S' := fun n q => Nat.lt_of_lt_of_le (h n q) p.length_le
abbrev RlT (β α : Type) := (Nat → Prop) → Sto → β → α → Prop
def OkR {β α : Type} (Rl : RlT β α) (Φ : Nat → Prop) (S : Sto) (r : R β) : RT α → Prop
  | .ok t => ∃ S' d, r = .ok d S' ∧ S <+: S' ∧ Rl Φ S' d t
  | .exc c => ∃ S', r = .exc c S' ∧ S <+: S'
  | .bad => True
theorem OkR.bind {β α β' α' : Type} {Rl : RlT β α} {Rl' : RlT β' α'} {Φ : Nat → Prop} {S : Sto} {r : R β} {q : RT α} {k : β → Sto → R β'} {κ : α → RT α'} (h : OkR Rl Φ S r q) (hk : ∀ S' d t, S <+: S' → Rl Φ S' d t → OkR Rl' Φ S' (k d S') (κ t)) :
    OkR Rl' Φ S (r.bind k) (q.bind κ) := by
  cases q with
  | ok t =>
    obtain ⟨S', d, rfl, p, rl⟩ := h
    have := hk S' d t p rl
    simp only [R.bind_ok, RT.bind_ok]
    cases e : κ t with
    | ok u => rw [e] at this; obtain ⟨S2, d2, e2, p2, r2⟩ := this; exact ⟨S2, d2, e2, p.trans p2, r2⟩
    | exc c => rw [e] at this; obtain ⟨S2, e2, p2⟩ := this; exact ⟨S2, e2, p.trans p2⟩
    | bad => trivial
  | exc c => obtain ⟨S', rfl, p⟩ := h; exact ⟨S', rfl, p⟩
  | bad => trivial
theorem OkR.up {β α : Type} {Rl : RlT β α} {Φ : Nat → Prop} {S S' : Sto} {r : R β} {q : RT α} (p : S <+: S') (h : OkR Rl Φ S' r q) : OkR Rl Φ S r q := by
  cases q with
  | ok t => obtain ⟨S2, d2, e2, p2, r2⟩ := h; exact ⟨S2, d2, e2, p.trans p2, r2⟩
  | exc c => obtain ⟨S2, e2, p2⟩ := h; exact ⟨S2, e2, p.trans p2⟩
  | bad => trivial
theorem OkR.here {β α : Type} {Rl : RlT β α} {Φ : Nat → Prop} {S : Sto} {d : β} {t : α} (h : Rl Φ S d t) : OkR Rl Φ S (.ok d S) (.ok t) := ⟨S, d, rfl, List.prefix_rfl, h⟩
theorem OkR.newL {Φ : Nat → Prop} {S : Sto} {ds : List D} {ts : List T} (hb : Bnd Φ S) (h : Rds Φ S ds ts) : OkR Rd Φ S (.ok (.ref S.length) (S ++ [.lst ds])) (.ok (.lst ts)) :=
  ⟨_, _, rfl, List.prefix_append _ _, .lst (fun q => Nat.lt_irrefl _ (hb _ q)) (by simp) (h.pre (List.prefix_append _ _))⟩
theorem OkR.newK {Φ : Nat → Prop} {S : Sto} {ds : List (Key × D)} {ts : List (Key × T)} (hb : Bnd Φ S) (h : Rdk Φ S ds ts) : OkR Rd Φ S (.ok (.ref S.length) (S ++ [.dct ds])) (.ok (.dct ts)) :=
  ⟨_, _, rfl, List.prefix_append _ _, .dct (fun q => Nat.lt_irrefl _ (hb _ q)) (by simp) (h.pre (List.prefix_append _ _))⟩
abbrev TEnv := List (Option T)
structure EnvR (Φ : Nat → Prop) (j : Option Nat) (S : Sto) (ε : Env) (τ : TEnv) : Prop where
  len : ε.length = τ.length
  at_ : ∀ (i : Nat) (t : T), j ≠ some i → τ[i]? = some (some t) → ∃ d, ε[i]? = some (some d) ∧ Rd Φ S d t
theorem EnvR.keep {Φ Ψ : Nat → Prop} {j : Option Nat} {S S' : Sto} {ε : Env} {τ : TEnv} (h : EnvR Φ j S ε τ) (hΦ : ∀ n, n < S.length → Ψ n → Φ n) (hS : ∀ (n : Nat) (o : O), ¬ Φ n → S[n]? = some o → S'[n]? = some o) : EnvR Ψ j S' ε τ :=
  ⟨h.len, fun i t n e => let ⟨d, h1, h2⟩ := h.at_ i t n e; ⟨d, h1, h2.keep hΦ hS⟩⟩
theorem EnvR.pre {Φ : Nat → Prop} {j : Option Nat} {S S' : Sto} {ε : Env} {τ : TEnv} (h : EnvR Φ j S ε τ) (p : S <+: S') : EnvR Φ j S' ε τ :=
  ⟨h.len, fun i t n e => let ⟨d, h1, h2⟩ := h.at_ i t n e; ⟨d, h1, h2.pre p⟩⟩
theorem EnvR.set {Φ : Nat → Prop} {j : Option Nat} {S : Sto} {ε : Env} {τ : TEnv} (h : EnvR Φ j S ε τ) (k : Nat) {d : D} {t : T} (r : Rd Φ S d t) : EnvR Φ j S (ε.set k (some d)) (τ.set k (some t)) := by
  refine ⟨by rw [List.length_set, List.length_set]; exact h.len, fun i u n e => ?_⟩
  by_cases q : i = k
  · subst q
    have hl : i < τ.length := by have := (List.getElem?_eq_some_iff.mp e).1; simpa using this
    rw [List.getElem?_set_self (by simpa using hl)] at e
    cases e
    exact ⟨d, by rw [List.getElem?_set_self (by rw [h.len]; simpa using hl)], r⟩
  · rw [List.getElem?_set_ne (Ne.symm q)] at e
    obtain ⟨d', h1, h2⟩ := h.at_ i u n e
    exact ⟨d', by rw [List.getElem?_set_ne (Ne.symm q)]; exact h1, h2⟩
theorem EnvR.off {Φ : Nat → Prop} {j : Option Nat} {S : Sto} {ε : Env} {τ : TEnv} (h : EnvR Φ j S ε τ) (k : Nat) : EnvR Φ j S (ε.set k none) (τ.set k none) := by
  refine ⟨by rw [List.length_set, List.length_set]; exact h.len, fun i u n e => ?_⟩
  by_cases q : i = k
  · subst q
    have hl : i < τ.length := by have := (List.getElem?_eq_some_iff.mp e).1; simpa using this
    rw [List.getElem?_set_self (by simpa using hl)] at e
    cases e
  · rw [List.getElem?_set_ne (Ne.symm q)] at e
    obtain ⟨d', h1, h2⟩ := h.at_ i u n e
    exact ⟨d', by rw [List.getElem?_set_ne (Ne.symm q)]; exact h1, h2⟩
def twipe (τ : TEnv) : List Nat → TEnv
  | [] => τ
  | v :: vs => (twipe τ vs).set v none
theorem EnvR.wipe {Φ : Nat → Prop} {j : Option Nat} {S : Sto} {ε : Env} {τ : TEnv} (h : EnvR Φ j S ε τ) : ∀ vs : List Nat, EnvR Φ j S (wipeE ε vs) (twipe τ vs)
  | [] => h
  | v :: vs => (EnvR.wipe h vs).off v
def Snd {β α : Type} (Rl : RlT β α) (j : Option Nat) (a : Env → Sto → R β) (q : TEnv → RT α) : Prop := ∀ Φ S ε τ, EnvR Φ j S ε τ → Bnd Φ S → OkR Rl Φ S (a ε S) (q τ)
def rqB {β : Type} : RlT β β := fun _ _ d t => d = t
abbrev TDen := TEnv → RT T
abbrev TDenB := TEnv → RT Bool
abbrev TDenA := TEnv → RT (List T)
abbrev TDenO := TEnv → RT (Option Int)
abbrev SndE (j : Option Nat) (a : Den) (q : TDen) : Prop := Snd Rd j a q
abbrev SndB (j : Option Nat) (a : DenB) (q : TDenB) : Prop := Snd rqB j a q
abbrev SndA (j : Option Nat) (a : DenA) (q : TDenA) : Prop := Snd Rds j a q
abbrev SndO (j : Option Nat) (a : DenO) (q : TDenO) : Prop := Snd rqB j a q
theorem Snd.bind {β α β' α' : Type} {Rl : RlT β α} {Rl' : RlT β' α'} {j : Option Nat} {a : Env → Sto → R β} {q : TEnv → RT α} {k : Env → β → Sto → R β'} {κ : TEnv → α → RT α'} (h : Snd Rl j a q)
    (hk : ∀ Φ S ε τ d t, EnvR Φ j S ε τ → Bnd Φ S → Rl Φ S d t → OkR Rl' Φ S (k ε d S) (κ τ t)) : Snd Rl' j (fun ε S => (a ε S).bind (k ε)) (fun τ => (q τ).bind (κ τ)) := fun Φ S ε τ er hb =>
  (h Φ S ε τ er hb).bind fun S' d t p rl => hk Φ S' ε τ d t (er.pre p) (hb.pre p) rl
def tC (t : T) : TDen := fun _ => .ok t
def tVar (i : Nat) : TDen := fun τ => match τ[i]? with
  | some (some t) => .ok t
  | _ => .bad
section
variable {j : Option Nat} {a b c : Den} {p q r : TDen} {as : DenA} {qs : TDenA}
theorem snd_int {i : Int} : SndE j (dC (.int i)) (tC (.int i)) := fun _ _ _ _ _ _ => .here (.int i)
theorem snd_bl {i : Bool} : SndE j (dC (.bl i)) (tC (.bl i)) := fun _ _ _ _ _ _ => .here (.bl i)
theorem snd_str {i : Str} : SndE j (dC (.str i)) (tC (.str i)) := fun _ _ _ _ _ _ => .here (.str i)
theorem snd_var {i : Nat} (h : j ≠ some i := by decide) : SndE j (dVar i) (tVar i) := fun Φ S ε τ er hb => by
  unfold tVar
  split
  · obtain ⟨d, h1, h2⟩ := er.at_ i _ h ‹_›
    rw [x_Var h1]
    exact .here h2
  · trivial
def tNil : TDenA := fun _ => .ok []
def tCons (p : TDen) (qs : TDenA) : TDenA := fun τ => (p τ).bind fun t => (qs τ).bind fun ts => .ok (t :: ts)
theorem snd_nil : SndA j dNil tNil := fun _ _ _ _ _ _ => .here .nil
theorem snd_cons (h : SndE j a p) (hs : SndA j as qs) : SndA j (dCons a as) (tCons p qs) := fun Φ S ε τ er hb =>
  (h Φ S ε τ er hb).bind fun S1 d t p1 r1 => (hs Φ S1 ε τ (er.pre p1) (hb.pre p1)).bind fun S2 ds ts p2 r2 => .here (.cons (Rd.pre p2 r1) r2)
def tTup (qs : TDenA) : TDen := fun τ => (qs τ).bind fun ts => if ts.length ≤ big then .ok (.tup ts) else .bad
def tLst (qs : TDenA) : TDen := fun τ => (qs τ).bind fun ts => if ts.length ≤ big then .ok (.lst ts) else .bad
theorem snd_tup (hs : SndA j as qs) : SndE j (dTup as) (tTup qs) := fun Φ S ε τ er hb =>
  (hs Φ S ε τ er hb).bind fun S1 ds ts p1 r1 => by
    unfold mkTup
    rw [r1.len]
    split
    · exact .here (.tup r1)
    · trivial
theorem snd_lst (hs : SndA j as qs) : SndE j (dLst as) (tLst qs) := fun Φ S ε τ er hb =>
  (hs Φ S ε τ er hb).bind fun S1 ds ts p1 r1 => by
    unfold mkLst
    rw [r1.len]
    split
    · exact .newL (hb.pre p1) r1
    · trivial
abbrev TOp := T → T → RT T
def OpT (o : Op) (q : TOp) : Prop := ∀ Φ S d e t u, Rd Φ S d t → Rd Φ S e u → Bnd Φ S → OkR Rd Φ S (o d e S) (q t u)
def tBin (o : TOp) (p q : TDen) : TDen := fun τ => (p τ).bind fun t => (q τ).bind fun u => o t u
theorem snd_bin {o : Op} {qo : TOp} (ho : OpT o qo) (ha : SndE j a p) (hb : SndE j b q) : SndE j (dBin o a b) (tBin qo p q) := fun Φ S ε τ er hB =>
  (ha Φ S ε τ er hB).bind fun S1 d t p1 r1 => (hb Φ S1 ε τ (er.pre p1) (hB.pre p1)).bind fun S2 e u p2 r2 => ho Φ S2 d e t u (Rd.pre p2 r1) r2 ((hB.pre p1).pre p2)
def tTest (p : TDen) : TDenB := fun τ => (p τ).bind fun t => match t with
  | .bl b => .ok b
  | _ => .bad
theorem snd_test (ha : SndE j a p) : SndB j (dTest a) (tTest p) := fun Φ S ε τ er hB => (ha Φ S ε τ er hB).bind fun S1 d t p1 r1 => by
  cases r1 <;> first | exact OkR.here rfl | trivial
def qAdd : TOp := fun t u => match t, u with
  | .int i, .int k => .ok (.int (i + k))
  | .str x, .str y => if x.length + y.length ≤ big then .ok (.str (x ++ y)) else .bad
  | .tup xs, .tup ys => if xs.length + ys.length ≤ big then .ok (.tup (xs ++ ys)) else .bad
  | .lst xs, .lst ys => if (xs ++ ys).length ≤ big then .ok (.lst (xs ++ ys)) else .bad
  | _, _ => .bad
theorem sq_add : OpT oAdd qAdd := fun Φ S d e t u r r' hB => by
  cases r <;> cases r' <;> try (first | trivial | exact OkR.here (.int _))
  · simp only [oAdd, qAdd]
    split
    · exact .here (.str _)
    · trivial
  · rename_i rs _ _ rs'
    simp only [oAdd, qAdd, rs.len, rs'.len]
    split
    · exact .here (.tup (rs.app rs'))
    · trivial
  · rename_i _ e1 rs _ _ _ _ e2 rs'
    simp only [oAdd, qAdd, e1, e2, mkLst, (rs.app rs').len]
    split
    · exact .newL hB (rs.app rs')
    · trivial
def qSub : TOp := fun t u => match t, u with
  | .int i, .int k => .ok (.int (i - k))
  | _, _ => .bad
theorem sq_sub : OpT oSub qSub := fun Φ S d e t u r r' hB => by
  cases r <;> cases r' <;> try (first | trivial | exact OkR.here (.int _))
def qInt (f : Int → Int → Bool) : TOp := fun d e => match d, e with
  | .int i, .int j => .ok (.bl (f i j))
  | _, _ => .bad
theorem sq_int {f : Int → Int → Bool} : OpT (oInt f) (qInt f) := fun Φ S d e t u r r' hB => by
  cases r <;> cases r' <;> first | trivial | exact OkR.here (.bl _)
abbrev qLt : TOp := qInt fun i j => decide (i < j)
abbrev qLe : TOp := qInt fun i j => decide (i ≤ j)
abbrev qGt : TOp := qInt fun i j => decide (j < i)
abbrev qGe : TOp := qInt fun i j => decide (j ≤ i)
def py : Nat → T → Option PyData
  | 0, _ => none
  | n + 1, d => match d with
    | .non => some .none
    | .bl b => some (.bool b)
    | .int i => some (.int i)
    | .str x => some (.str x)
    | .tup ds => (fall (py n) ds).map .tuple
    | .seq ds => (fall (py n) ds).map .list
    | .lst ds => (fall (py n) ds).map .list
    | .dct _ => none
theorem fall_py {Φ : Nat → Prop} {S : Sto} {f : D → Option PyData} {g : T → Option PyData} (h : ∀ d t, Rd Φ S d t → f d = g t) : ∀ {ds : List D} {ts : List T}, Rds Φ S ds ts → fall f ds = fall g ts
  | _, _, .nil => rfl
  | _, _, .cons a b => by
    simp only [fall, h _ _ a, fall_py h b]
theorem frz_py {Φ : Nat → Prop} {S : Sto} : ∀ (n : Nat) (d : D) (t : T), Rd Φ S d t → frz n S d = py n t
  | 0, _, _, _ => rfl
  | n + 1, d, t, r => by
    cases r with
    | non => rfl
    | bl => rfl
    | int => rfl
    | str => rfl
    | tup rs => simp only [frz, py, fall_py (frz_py n) rs]
    | seq rs => simp only [frz, py, fall_py (frz_py n) rs]
    | lst _ e rs => simp only [frz, py, e, fall_py (frz_py n) rs]
    | dct _ e rs => simp only [frz, py, e]
def sEqT : T → T → Option Bool
  | .non, .non => some true
  | .non, .int _ => some false | .int _, .non => some false | .non, .bl _ => some false | .bl _, .non => some false | .non, .str _ => some false | .str _, .non => some false
  | .int i, .int j => some (decide (i = j))
  | .bl i, .bl j => some (decide (i = j))
  | .str i, .str j => some (decide (i = j))
  | .int _, .str _ => some false | .str _, .int _ => some false | .bl _, .str _ => some false | .str _, .bl _ => some false
  | _, _ => none
def eqT (t u : T) : Option Bool := match sEqT t u with
  | some b => some b
  | none => match py deep t, py deep u with
    | some p, some q => if SeqAt.shaped p = true ∧ SeqAt.shaped q = true then some (PyData.eqv p q) else none
    | _, _ => none
theorem dEq_T {Φ : Nat → Prop} {S : Sto} {d e : D} {t u : T} (r : Rd Φ S d t) (r' : Rd Φ S e u) : dEq S d e = eqT t u := by
  have h : sEq d e = sEqT t u := by cases r <;> cases r' <;> rfl
  unfold dEq eqT
  rw [h, frz_py deep _ _ r, frz_py deep _ _ r']
  all_goals
    cases sEqT t u with
    | some b => rfl
    | none => cases py deep t <;> cases py deep u <;> rfl
def qEq : TOp := fun t u => match eqT t u with
  | some b => .ok (.bl b)
  | none => .bad
def qNe : TOp := fun t u => match eqT t u with
  | some b => .ok (.bl !b)
  | none => .bad
theorem sq_eq : OpT oEq qEq := fun Φ S d e t u r r' hB => by
  unfold oEq qEq
  rw [dEq_T r r']
  cases eqT t u with
  | some b => exact OkR.here (.bl _)
  | none => trivial
theorem sq_ne : OpT oNe qNe := fun Φ S d e t u r r' hB => by
  unfold oNe qNe
  rw [dEq_T r r']
  cases eqT t u with
  | some b => exact OkR.here (.bl _)
  | none => trivial
def itsT : T → Option (List T)
  | .tup ts => some ts
  | .seq ts => some ts
  | .lst ts => some ts
  | _ => none
theorem items_T {Φ : Nat → Prop} {S : Sto} {d : D} {t : T} (r : Rd Φ S d t) : (items S d = none ∧ itsT t = none) ∨ ∃ ds ts, items S d = some ds ∧ itsT t = some ts ∧ Rds Φ S ds ts := by
  cases r with
  | tup rs => exact .inr ⟨_, _, rfl, rfl, rs⟩
  | seq rs => exact .inr ⟨_, _, rfl, rfl, rs⟩
  | lst _ e rs => exact .inr ⟨_, _, by simp only [items, e], rfl, rs⟩
  | dct _ e rs => exact .inl ⟨by simp only [items, e], rfl⟩
  | _ => exact .inl ⟨rfl, rfl⟩
def flatT : T → Bool
  | .non => true | .bl _ => true | .int _ => true | .str _ => true
  | _ => false
def eqFT : T → T → Bool
  | .non, .non => true
  | .bl a, .bl b => a == b
  | .bl a, .int b => (if a then 1 else 0) == b
  | .int a, .bl b => a == (if b then 1 else 0)
  | .int a, .int b => a == b
  | .str a, .str b => a == b
  | _, _ => false
theorem flat_T {Φ : Nat → Prop} {S : Sto} {d : D} {t : T} (r : Rd Φ S d t) : flatD d = flatT t := by cases r <;> rfl
theorem flats_T {Φ : Nat → Prop} {S : Sto} : ∀ {ds : List D} {ts : List T}, Rds Φ S ds ts → ds.all flatD = ts.all flatT
  | _, _, .nil => rfl
  | _, _, .cons h t => by rw [List.all_cons, List.all_cons, flat_T h, flats_T t]
theorem eqF_T {Φ : Nat → Prop} {S : Sto} {d e : D} {t u : T} (r : Rd Φ S d t) (r' : Rd Φ S e u) : eqF d e = eqFT t u := by cases r <;> cases r' <;> rfl
theorem any_T {Φ : Nat → Prop} {S : Sto} {d : D} {t : T} (r : Rd Φ S d t) : ∀ {ds : List D} {ts : List T}, Rds Φ S ds ts → (ds.any fun z => eqF z d) = ts.any fun z => eqFT z t
  | _, _, .nil => rfl
  | _, _, .cons h q => by rw [List.any_cons, List.any_cons, eqF_T h r, any_T r q]
def inS (t u : T) : Option Bool := match itsT u with
  | some ts => if flatT t = true ∧ ts.all flatT = true then some (ts.any fun z => eqFT z t) else
      match py deep t, py deep u with
      | some p, some (.list ps) => if SeqAt.shaped p = true ∧ SeqAt.shaped (.list ps) = true then some (ps.any fun z => PyData.eqv z p) else none
      | some p, some (.tuple ps) => if SeqAt.shaped p = true ∧ SeqAt.shaped (.tuple ps) = true then some (ps.any fun z => PyData.eqv z p) else none
      | _, _ => none
  | none => none
def inT (t u : T) : Option Bool := match t, u with
  | .str x, .str y => if x.cps.size = 1 then some (decide (x.cps.getD 0 0 ∈ y.cps.toList)) else none
  | t, u => inS t u
theorem inD_T {Φ : Nat → Prop} {S : Sto} {d e : D} {t u : T} (r : Rd Φ S d t) (r' : Rd Φ S e u) : inD S d e = inT t u := by
  by_cases h : ∃ x y, d = .str x ∧ e = .str y
  · obtain ⟨x, y, rfl, rfl⟩ := h
    cases r
    cases r'
    rfl
  · have h1 : inT t u = inS t u := by
      cases r <;> cases r' <;> first | rfl | exact absurd ⟨_, _, rfl, rfl⟩ h
    rw [h1]
    have h2 : inD S d e = match items S e with
        | some ds => if flatD d = true ∧ ds.all flatD = true then some (ds.any fun z => eqF z d) else
          match frz deep S d, frz deep S e with
          | some p, some (.list ps) => if SeqAt.shaped p = true ∧ SeqAt.shaped (.list ps) = true then some (ps.any fun z => PyData.eqv z p) else none
          | some p, some (.tuple ps) => if SeqAt.shaped p = true ∧ SeqAt.shaped (.tuple ps) = true then some (ps.any fun z => PyData.eqv z p) else none
          | _, _ => none
        | none => none := by
      cases d <;> cases e <;> first | rfl | exact absurd ⟨_, _, rfl, rfl⟩ h
    rw [h2]
    unfold inS
    rcases items_T r' with ⟨e1, e2⟩ | ⟨ds, ts, e1, e2, rs⟩
    · rw [e1, e2]
    · rw [e1, e2]
      simp only [flat_T r, flats_T rs, any_T r rs, frz_py deep _ _ r, frz_py deep _ _ r']
def qIn : TOp := fun t u => match inT t u with
  | some b => .ok (.bl b)
  | none => .bad
def qNotIn : TOp := fun t u => match inT t u with
  | some b => .ok (.bl !b)
  | none => .bad
theorem sq_in : OpT oIn qIn := fun Φ S d e t u r r' hB => by
  unfold oIn qIn
  rw [inD_T r r']
  cases inT t u with
  | some b => exact OkR.here (.bl _)
  | none => trivial
theorem sq_notIn : OpT oNotIn qNotIn := fun Φ S d e t u r r' hB => by
  unfold oNotIn qNotIn
  rw [inD_T r r']
  cases inT t u with
  | some b => exact OkR.here (.bl _)
  | none => trivial
end
end DL
namespace DL
open PySem L2
section
variable {j : Option Nat} {a b c : Den} {p q r : TDen} {as : DenA} {qs : TDenA} {ba bb : DenB} {γ δ : TDenB}
theorem Rds.atI {Φ : Nat → Prop} {S : Sto} {ds : List D} {ts : List T} (r : Rds Φ S ds ts) (i : Int) : (L2.atI ds i = none ∧ L2.atI ts i = none) ∨ ∃ d t, L2.atI ds i = some d ∧ L2.atI ts i = some t ∧ Rd Φ S d t := by
  unfold L2.atI
  rw [r.len]
  cases ixN ts.length i with
  | none => exact .inl ⟨rfl, rfl⟩
  | some k =>
    show (ds[k]? = none ∧ ts[k]? = none) ∨ ∃ d t, ds[k]? = some d ∧ ts[k]? = some t ∧ Rd Φ S d t
    cases e : ts[k]? with
    | none => exact .inl ⟨by rw [List.getElem?_eq_none_iff] at e ⊢; rw [r.len]; exact e, rfl⟩
    | some t => obtain ⟨d, h1, h2⟩ := r.get e; exact .inr ⟨d, t, h1, rfl, h2⟩
def qIx : TOp := fun d e => match d, e with
  | .str z, .int i => if z.length ≤ big then (match atI z.cps.toList i with
    | some c => .ok (.str ⟨#[c]⟩)
    | none => .bad) else .bad
  | d, .int i => match itsT d with
    | some ds => (match atI ds i with
      | some x => .ok x
      | none => .bad)
    | none => .bad
  | _, _ => .bad
theorem sq_ix : OpT oIx qIx := fun Φ S d e t u r r' hB => by
  by_cases h : ∃ z, d = .str z
  · obtain ⟨z, rfl⟩ := h
    cases r
    cases r' <;> try trivial
    simp only [oIx, qIx]
    split
    · split
      · rename_i h; try simp only [h]
        exact .here (.str _)
      · rename_i h; try simp only [h]
        trivial
    · trivial
  · cases r' with
    | int i =>
      have h1 : oIx d (.int i) S = match items S d with
          | some ds => (match atI ds i with
            | some x => .ok x S
            | none => .bad)
          | none => .bad := by
        cases d <;> first | rfl | exact absurd ⟨_, rfl⟩ h
      have h2 : qIx t (.int i) = match itsT t with
          | some ds => (match atI ds i with
            | some x => .ok x
            | none => .bad)
          | none => .bad := by
        cases r <;> first | rfl | exact absurd ⟨_, rfl⟩ h
      rw [h1, h2]
      rcases items_T r with ⟨e1, e2⟩ | ⟨ds, ts, e1, e2, rs⟩
      · rw [e1, e2]; trivial
      · rw [e1, e2]
        rcases rs.atI i with ⟨e3, e4⟩ | ⟨d', t', e3, e4, r4⟩
        · simp only [e3, e4]; trivial
        · simp only [e3, e4]; exact .here r4
    | _ =>
      have h2 : ∀ u : T, (∀ i, u ≠ .int i) → qIx t u = .bad := by
        intro u hu
        unfold qIx
        split <;> first | rfl | exact absurd rfl (hu _)
      rw [h2 _ (by intro i; simp)]
      trivial
def keyT : T → Option Key
  | .int i => some (.inl i)
  | .str x => some (.inr x)
  | _ => none
theorem key_T {Φ : Nat → Prop} {S : Sto} {d : D} {t : T} (r : Rd Φ S d t) : keyD d = keyT t := by cases r <;> rfl
def valT (kvs : List (Key × T)) (k : Key) : Option T := (kvs.find? fun kv => decide (kv.1 = k)).map (·.2)
def putT (kvs : List (Key × T)) (k : Key) (v : T) : List (Key × T) :=
  if (kvs.any fun kv => decide (kv.1 = k)) = true then kvs.map (fun kv => if kv.1 = k then (kv.1, v) else kv) else kvs ++ [(k, v)]
def mergeT (kvs more : List (Key × T)) : List (Key × T) := more.foldl (fun acc kv => putT acc kv.1 kv.2) kvs
theorem Rdk.len {Φ : Nat → Prop} {S : Sto} : ∀ {ds : List (Key × D)} {ts : List (Key × T)}, Rdk Φ S ds ts → ds.length = ts.length
  | _, _, .nil => rfl
  | _, _, .cons _ t => congrArg (· + 1) (Rdk.len t)
theorem Rdk.val {Φ : Nat → Prop} {S : Sto} (k : Key) : ∀ {ds : List (Key × D)} {ts : List (Key × T)}, Rdk Φ S ds ts → (valD ds k = none ∧ valT ts k = none) ∨ ∃ d t, valD ds k = some d ∧ valT ts k = some t ∧ Rd Φ S d t
  | _, _, .nil => .inl ⟨rfl, rfl⟩
  | _, _, .cons (k := k') (d := d) (ds := ds) (t := t) (ts := ts) h q => by
    by_cases e : k' = k
    · subst e
      exact .inr ⟨d, t, by simp [valD], by simp [valT], h⟩
    · have h1 : valD ((k', d) :: ds) k = valD ds k := by simp [valD, List.find?, e]
      have h2 : valT ((k', t) :: ts) k = valT ts k := by simp [valT, List.find?, e]
      rw [h1, h2]
      exact Rdk.val k q
theorem Rdk.app {Φ : Nat → Prop} {S : Sto} : ∀ {ds es : List (Key × D)} {ts us : List (Key × T)}, Rdk Φ S ds ts → Rdk Φ S es us → Rdk Φ S (ds ++ es) (ts ++ us)
  | _, _, _, _, .nil, s => s
  | _, _, _, _, .cons h t, s => .cons h (Rdk.app t s)
theorem Rdk.anyK {Φ : Nat → Prop} {S : Sto} (k : Key) : ∀ {ds : List (Key × D)} {ts : List (Key × T)}, Rdk Φ S ds ts → (ds.any fun kv => decide (kv.1 = k)) = (ts.any fun kv => decide (kv.1 = k))
  | _, _, .nil => rfl
  | _, _, .cons h t => by rw [List.any_cons, List.any_cons, Rdk.anyK k t]
theorem Rdk.mapPut {Φ : Nat → Prop} {S : Sto} (k : Key) {d : D} {t : T} (r : Rd Φ S d t) : ∀ {ds : List (Key × D)} {ts : List (Key × T)}, Rdk Φ S ds ts → Rdk Φ S (ds.map fun kv => if kv.1 = k then (kv.1, d) else kv) (ts.map fun kv => if kv.1 = k then (kv.1, t) else kv)
  | _, _, .nil => .nil
  | _, _, .cons (k := k') h q => by
    by_cases e : k' = k
    · simp only [List.map_cons, e, if_true]; exact .cons r (Rdk.mapPut k r q)
    · simp only [List.map_cons, e, if_false]; exact .cons h (Rdk.mapPut k r q)
theorem Rdk.put {Φ : Nat → Prop} {S : Sto} (k : Key) {d : D} {t : T} (r : Rd Φ S d t) {ds : List (Key × D)} {ts : List (Key × T)} (h : Rdk Φ S ds ts) : Rdk Φ S (putD ds k d) (putT ts k t) := by
  unfold putD putT
  rw [h.anyK k]
  split
  · exact h.mapPut k r
  · exact h.app (.cons r .nil)
theorem Rdk.merge {Φ : Nat → Prop} {S : Sto} : ∀ {es : List (Key × D)} {us : List (Key × T)} {ds : List (Key × D)} {ts : List (Key × T)}, Rdk Φ S es us → Rdk Φ S ds ts → Rdk Φ S (mergeD ds es) (mergeT ts us)
  | _, _, _, _, .nil, h => h
  | _, _, _, _, .cons (k := k) (d := d) (ds := es) (t := t) (ts := us) r q, h => (Rdk.merge (es := es) (us := us) q (h.put k r) :)
def dctT : T → Option (List (Key × T))
  | .dct kvs => some kvs
  | _ => none
theorem dct_T {Φ : Nat → Prop} {S : Sto} {d : D} {t : T} (r : Rd Φ S d t) : (dctAt S d = none ∧ dctT t = none) ∨ ∃ n ds ts, dctAt S d = some (n, ds) ∧ dctT t = some ts ∧ Rdk Φ S ds ts ∧ ¬ Φ n ∧ S[n]? = some (.dct ds) := by
  cases r with
  | lst _ e rs => exact .inl ⟨by simp only [dctAt, e], rfl⟩
  | dct h e rs => exact .inr ⟨_, _, _, by simp only [dctAt, e], rfl, rs, h, e⟩
  | _ => exact .inl ⟨rfl, rfl⟩
def qGet : TOp := fun d k => match dctT d with
  | some kvs => (match keyT k with
    | some j => (match valT kvs j with
      | some v => .ok v
      | none => .bad)
    | none => .bad)
  | none => qIx d k
theorem sq_get : OpT oGet qGet := fun Φ S d e t u r r' hB => by
  unfold oGet qGet
  rcases dct_T r with ⟨e1, e2⟩ | ⟨n, ds, ts, e1, e2, rs, _, _⟩
  · rw [e1, e2]
    exact sq_ix Φ S d e t u r r' hB
  · rw [e1, e2, key_T r']
    cases keyT u with
    | none => trivial
    | some k =>
      rcases rs.val k with ⟨e3, e4⟩ | ⟨d', t', e3, e4, r4⟩
      · simp only [e3, e4]; trivial
      · simp only [e3, e4]; exact .here r4
def tGet2 (p q r : TDen) : TDen := fun τ => (p τ).bind fun d => match dctT d with
  | some kvs => (q τ).bind fun k => (r τ).bind fun x => (match keyT k with
    | some k => .ok ((valT kvs k).getD x)
    | none => .bad)
  | none => .bad
theorem dctAt_pre {S S' : Sto} (p : S <+: S') {d : D} {n : Nat} {ds : List (Key × D)} (h : dctAt S d = some (n, ds)) : dctAt S' d = some (n, ds) := by
  cases d <;> try (cases h; done)
  rename_i m
  unfold dctAt at h ⊢
  simp only at h ⊢
  split at h
  · cases h
    rename_i e
    obtain ⟨E, rfl⟩ := p
    rw [List.getElem?_append_left (List.getElem?_eq_some_iff.mp e).1, e]
  · cases h
theorem snd_get2 (ha : SndE j a p) (hb : SndE j b q) (hc : SndE j c r) : SndE j (dGet2 a b c) (tGet2 p q r) := fun Φ S ε τ er hB =>
  (ha Φ S ε τ er hB).bind fun S1 d t p1 r1 => by
    rcases dct_T r1 with ⟨e1, e2⟩ | ⟨n, ds, ts, e1, e2, rs, _, _⟩
    · rw [e1, e2]; trivial
    · rw [e1, e2]
      refine (hb Φ S1 ε τ (er.pre p1) (hB.pre p1)).bind fun S2 k u p2 r2 => ?_
      refine (hc Φ S2 ε τ ((er.pre p1).pre p2) ((hB.pre p1).pre p2)).bind fun S3 x v p3 r3 => ?_
      rw [dctAt_pre p3 (dctAt_pre p2 e1), key_T r2]
      cases keyT u with
      | none => trivial
      | some k =>
        rcases ((rs.pre p2).pre p3).val k with ⟨e3, e4⟩ | ⟨d', t', e3, e4, r4⟩
        · simp only [e3, e4]; exact .here r3
        · simp only [e3, e4]; exact .here r4
def tPairs : List (TDen × TDen) → TEnv → RT (List (T × T))
  | [], _ => .ok []
  | (k, v) :: r, τ => (k τ).bind fun x => (v τ).bind fun y => (tPairs r τ).bind fun ps => .ok ((x, y) :: ps)
def keyedT : List (T × T) → Option (List (Key × T))
  | [] => some []
  | (k, v) :: r => match keyT k, keyedT r with
    | some j, some s => some ((j, v) :: s)
    | _, _ => none
def tDisp (ps : List (TDen × TDen)) : TDen := fun τ => (tPairs ps τ).bind fun qs => match keyedT qs with
  | some kvs => if kvs.length ≤ 15 then .ok (.dct (mergeT [] kvs)) else .bad
  | none => .bad
inductive SndPs (j : Option Nat) : List (Den × Den) → List (TDen × TDen) → Prop
  | nil : SndPs j [] []
  | cons {k v : Den} {x y : TDen} {ps : List (Den × Den)} {qs : List (TDen × TDen)} : SndE j k x → SndE j v y → SndPs j ps qs → SndPs j ((k, v) :: ps) ((x, y) :: qs)
inductive Rdp (Φ : Nat → Prop) (S : Sto) : List (D × D) → List (T × T) → Prop
  | nil : Rdp Φ S [] []
  | cons {k v : D} {x y : T} {ds : List (D × D)} {ts : List (T × T)} : Rd Φ S k x → Rd Φ S v y → Rdp Φ S ds ts → Rdp Φ S ((k, v) :: ds) ((x, y) :: ts)
theorem Rdp.keyed {Φ : Nat → Prop} {S : Sto} : ∀ {ds : List (D × D)} {ts : List (T × T)}, Rdp Φ S ds ts → (DL.keyed ds = none ∧ keyedT ts = none) ∨ ∃ ks us, DL.keyed ds = some ks ∧ keyedT ts = some us ∧ Rdk Φ S ks us
  | _, _, .nil => .inr ⟨[], [], rfl, rfl, .nil⟩
  | _, _, .cons (x := x) hk hv h => by
    unfold DL.keyed keyedT
    rw [key_T hk]
    cases keyT x with
    | none => exact .inl ⟨rfl, rfl⟩
    | some k =>
      rcases Rdp.keyed h with ⟨e1, e2⟩ | ⟨ks, us, e1, e2, rs⟩
      · rw [e1, e2]; exact .inl ⟨rfl, rfl⟩
      · rw [e1, e2]; exact .inr ⟨_, _, rfl, rfl, .cons hv rs⟩
theorem snd_pairs : ∀ {ps : List (Den × Den)} {qs : List (TDen × TDen)}, SndPs j ps qs → Snd Rdp j (dPairs ps) (tPairs qs)
  | _, _, .nil => fun Φ S ε τ er hB => .here .nil
  | _, _, .cons hk hv h => fun Φ S ε τ er hB => (hk Φ S ε τ er hB).bind fun S1 d t p1 r1 => (hv Φ S1 ε τ (er.pre p1) (hB.pre p1)).bind fun S2 e u p2 r2 =>
      (snd_pairs h Φ S2 ε τ ((er.pre p1).pre p2) ((hB.pre p1).pre p2)).bind fun S3 ds ts p3 r3 => .here (.cons ((r1.pre p2).pre p3) (r2.pre p3) r3)
theorem snd_disp {ps : List (Den × Den)} {qs : List (TDen × TDen)} (h : SndPs j ps qs) : SndE j (dDisp ps) (tDisp qs) := fun Φ S ε τ er hB =>
  (snd_pairs h Φ S ε τ er hB).bind fun S1 ds ts p1 r1 => by
    rcases r1.keyed with ⟨e1, e2⟩ | ⟨ks, us, e1, e2, rs⟩
    · rw [e1, e2]; trivial
    · rw [e1, e2]
      simp only [rs.len]
      split
      · exact .newK (hB.pre p1) (Rdk.merge rs .nil)
      · trivial
def cutT (xs : List T) (lo hi : Option Int) : List T := (xs.drop (HT.sIx xs.length 0 lo)).take (HT.sIx xs.length xs.length hi - HT.sIx xs.length 0 lo)
theorem Rds.cut {Φ : Nat → Prop} {S : Sto} {ds : List D} {ts : List T} (r : Rds Φ S ds ts) (lo hi : Option Int) : Rds Φ S (cutD ds lo hi) (cutT ts lo hi) := by
  unfold cutD cutT
  rw [r.len]
  exact (r.drop _).take _
def qSl (d : T) (lo hi : Option Int) : RT T := match d with
  | .str z => if z.length ≤ big then .ok (.str (cutS z lo hi)) else .bad
  | .tup ds => .ok (.tup (cutT ds lo hi))
  | .seq ds => if ds.length ≤ big then .ok (.lst (cutT ds lo hi)) else .bad
  | .lst ds => if ds.length ≤ big then .ok (.lst (cutT ds lo hi)) else .bad
  | _ => .bad
theorem sq_sl {Φ : Nat → Prop} {S : Sto} {d : D} {t : T} (r : Rd Φ S d t) (hB : Bnd Φ S) (lo hi : Option Int) : OkR Rd Φ S (oSl d lo hi S) (qSl t lo hi) := by
  cases r with
  | str x =>
    simp only [oSl, qSl]
    split
    · exact .here (.str _)
    · trivial
  | tup rs => exact .here (.tup (rs.cut lo hi))
  | seq rs =>
    simp only [oSl, qSl, rs.len]
    split
    · exact .newL hB (rs.cut lo hi)
    · trivial
  | lst _ e rs =>
    simp only [oSl, qSl, e, rs.len]
    split
    · exact .newL hB (rs.cut lo hi)
    · trivial
  | _ => trivial
def tNoPart : TDenO := fun _ => .ok none
def tPart (p : TDen) : TDenO := fun τ => (p τ).bind fun d => match d with
  | .int i => .ok (some i)
  | _ => .bad
theorem snd_noPart : SndO j dNoPart tNoPart := fun _ _ _ _ _ _ => .here rfl
theorem snd_part (ha : SndE j a p) : SndO j (dPart a) (tPart p) := fun Φ S ε τ er hB => (ha Φ S ε τ er hB).bind fun S1 d t p1 r1 => by
  cases r1 <;> first | exact OkR.here rfl | trivial
def tSl (p : TDen) (lo hi : TDenO) : TDen := fun τ => (p τ).bind fun d => (lo τ).bind fun l => (hi τ).bind fun u => qSl d l u
theorem snd_sl {lo hi : DenO} {lo' hi' : TDenO} (ha : SndE j a p) (hl : SndO j lo lo') (hh : SndO j hi hi') : SndE j (dSl a lo hi) (tSl p lo' hi') := fun Φ S ε τ er hB =>
  (ha Φ S ε τ er hB).bind fun S1 d t p1 r1 => (hl Φ S1 ε τ (er.pre p1) (hB.pre p1)).bind fun S2 e u p2 r2 => (hh Φ S2 ε τ ((er.pre p1).pre p2) ((hB.pre p1).pre p2)).bind fun S3 e3 u3 p3 r3 => by
    cases r2
    cases r3
    exact sq_sl ((r1.pre p2).pre p3) (((hB.pre p1).pre p2).pre p3) _ _
def tbAnd (a b : TDenB) : TDenB := fun τ => (a τ).bind fun c => if c = true then b τ else .ok false
def tbOr (a b : TDenB) : TDenB := fun τ => (a τ).bind fun c => if c = true then .ok true else b τ
def tbNot (a : TDenB) : TDenB := fun τ => (a τ).bind fun c => .ok (!c)
def tYes : TDenB := fun _ => .ok true
theorem snd_or (ha : SndB j ba γ) (hb : SndB j bb δ) : SndB j (bOr ba bb) (tbOr γ δ) := fun Φ S ε τ er hB => (ha Φ S ε τ er hB).bind fun S1 d t p1 r1 => by
  cases r1
  split
  · exact .here rfl
  · exact hb Φ S1 ε τ (er.pre p1) (hB.pre p1)
theorem snd_not (ha : SndB j ba γ) : SndB j (bNot ba) (tbNot γ) := fun Φ S ε τ er hB => (ha Φ S ε τ er hB).bind fun S1 d t p1 r1 => by
  cases r1
  exact .here rfl
theorem snd_yes : SndB j bYes tYes := fun _ _ _ _ _ _ => .here rfl
def tAndV (a b : TDen) : TDen := fun τ => (a τ).bind fun c => match c with
  | .bl true => b τ
  | .bl false => .ok (.bl false)
  | _ => .bad
def tOrV (a b : TDen) : TDen := fun τ => (a τ).bind fun c => match c with
  | .bl true => .ok (.bl true)
  | .bl false => b τ
  | _ => .bad
def tNotV (a : TDen) : TDen := fun τ => (a τ).bind fun c => match c with
  | .bl b => .ok (.bl !b)
  | _ => .bad
theorem snd_andV (ha : SndE j a p) (hb : SndE j b q) : SndE j (dAndV a b) (tAndV p q) := fun Φ S ε τ er hB => (ha Φ S ε τ er hB).bind fun S1 d t p1 r1 => by
  cases r1 with
  | bl b => cases b with
    | true => exact hb Φ S1 ε τ (er.pre p1) (hB.pre p1)
    | false => exact .here (.bl _)
  | _ => trivial
theorem snd_orV (ha : SndE j a p) (hb : SndE j b q) : SndE j (dOrV a b) (tOrV p q) := fun Φ S ε τ er hB => (ha Φ S ε τ er hB).bind fun S1 d t p1 r1 => by
  cases r1 with
  | bl b => cases b with
    | true => exact .here (.bl _)
    | false => exact hb Φ S1 ε τ (er.pre p1) (hB.pre p1)
  | _ => trivial
theorem snd_notV (ha : SndE j a p) : SndE j (dNotV a) (tNotV p) := fun Φ S ε τ er hB => (ha Φ S ε τ er hB).bind fun S1 d t p1 r1 => by
  cases r1 <;> first | exact OkR.here (.bl _) | trivial
def tIf (c : TDenB) (a b : TDen) : TDen := fun τ => (c τ).bind fun k => if k = true then a τ else b τ
theorem snd_if (hc : SndB j ba γ) (ha : SndE j a p) (hb : SndE j b q) : SndE j (dIf ba a b) (tIf γ p q) := fun Φ S ε τ er hB => (hc Φ S ε τ er hB).bind fun S1 d t p1 r1 => by
  cases r1
  split
  · exact ha Φ S1 ε τ (er.pre p1) (hB.pre p1)
  · exact hb Φ S1 ε τ (er.pre p1) (hB.pre p1)
def tChain (o o' : TOp) (a b c : TDen) : TDen := fun τ => (a τ).bind fun x => (b τ).bind fun y => (o x y).bind fun k => match k with
  | .bl true => (c τ).bind fun z => o' y z
  | .bl false => .ok (.bl false)
  | _ => .bad
theorem snd_chain {o o' : Op} {qo qo' : TOp} (ho : OpT o qo) (ho' : OpT o' qo') (ha : SndE j a p) (hb : SndE j b q) (hc : SndE j c r) : SndE j (dChain o o' a b c) (tChain qo qo' p q r) := fun Φ S ε τ er hB =>
  (ha Φ S ε τ er hB).bind fun S1 d t p1 r1 => (hb Φ S1 ε τ (er.pre p1) (hB.pre p1)).bind fun S2 e u p2 r2 => (ho Φ S2 d e t u (r1.pre p2) r2 ((hB.pre p1).pre p2)).bind fun S3 k v p3 r3 => by
    cases r3 with
    | bl b => cases b with
      | true => exact (hc Φ S3 ε τ (((er.pre p1).pre p2).pre p3) (((hB.pre p1).pre p2).pre p3)).bind fun S4 z w p4 r4 => ho' Φ S4 e z u w ((r2.pre p3).pre p4) r4 ((((hB.pre p1).pre p2).pre p3).pre p4)
      | false => exact .here (.bl _)
    | _ => trivial
abbrev TFn := List T → RT T
def FnT (f : Fn) (q : TFn) : Prop := ∀ Φ S ds ts, Rds Φ S ds ts → Bnd Φ S → OkR Rd Φ S (f ds S) (q ts)
def tFn (f : TFn) (qs : TDenA) : TDen := fun τ => (qs τ).bind f
theorem snd_fn {f : Fn} {q : TFn} (hf : FnT f q) (hs : SndA j as qs) : SndE j (dFn f as) (tFn q qs) := fun Φ S ε τ er hB => (hs Φ S ε τ er hB).bind fun S1 ds ts p1 r1 => hf Φ S1 ds ts r1 (hB.pre p1)
def tCall (n : Nat) (f : TFn) (qs : TDenA) : TDen := fun τ => (qs τ).bind fun ts => if ts.length = n then f ts else .bad
theorem snd_call {n : Nat} {f : Fn} {q : TFn} (hf : FnT f q) (hs : SndA j as qs) : SndE j (dCall n f as) (tCall n q qs) := fun Φ S ε τ er hB => (hs Φ S ε τ er hB).bind fun S1 ds ts p1 r1 => by
  rw [r1.len]
  split
  · exact hf Φ S1 ds ts r1 (hB.pre p1)
  · trivial
def litsT : T → Option (List T)
  | .seq ts => some ts
  | .lst ts => some ts
  | _ => none
theorem lits_T {Φ : Nat → Prop} {S : Sto} {d : D} {t : T} (r : Rd Φ S d t) : (litems S d = none ∧ litsT t = none) ∨ ∃ ds ts, litems S d = some ds ∧ litsT t = some ts ∧ Rds Φ S ds ts := by
  cases r with
  | seq rs => exact .inr ⟨_, _, rfl, rfl, rs⟩
  | lst _ e rs => exact .inr ⟨_, _, by simp only [litems, e], rfl, rs⟩
  | dct _ e rs => exact .inl ⟨by simp only [litems, e], rfl⟩
  | _ => exact .inl ⟨rfl, rfl⟩
def one1 (f : T → RT T) : TFn := fun ts => match ts with
  | [t] => f t
  | _ => .bad
theorem fn_one {f : Fn} {q : T → RT T} (h : ∀ Φ S d t, Rd Φ S d t → Bnd Φ S → OkR Rd Φ S (f [d] S) (q t)) : FnT f (one1 q) := fun Φ S ds ts r hB => by
  cases r with
  | nil => trivial
  | cons h1 t => cases t with
    | nil => exact h _ _ _ _ h1 hB
    | cons => trivial
def qLen : TFn := one1 fun d => match d with
  | .str z => if z.length ≤ big then .ok (.int z.length) else .bad
  | d => match itsT d with
    | some xs => .ok (.int xs.length)
    | none => .bad
theorem sf_len : FnT fLen qLen := fn_one fun Φ S d t r hB => by
  cases r with
  | str z =>
    simp only [fLen]
    split
    · exact .here (.int _)
    · trivial
  | tup rs => simp only [fLen, items, itsT, rs.len]; exact .here (.int _)
  | seq rs => simp only [fLen, items, itsT, rs.len]; exact .here (.int _)
  | lst _ e rs => simp only [fLen, items, itsT, e, rs.len]; exact .here (.int _)
  | _ => trivial
def qI : TFn := one1 fun d => match d with
  | .int i => .ok (.int i)
  | .bl b => .ok (.int (if b then 1 else 0))
  | _ => .bad
def qList : TFn := one1 fun d => match itsT d with
  | some xs => .ok (.lst xs)
  | none => .bad
def qTuple : TFn := one1 fun d => match itsT d with
  | some xs => .ok (.tup xs)
  | none => .bad
def blT : T → Option Bool
  | .bl i => some i
  | _ => none
theorem fall_T {α : Type} {Φ : Nat → Prop} {S : Sto} {f : D → Option α} {g : T → Option α} (h : ∀ d t, Rd Φ S d t → f d = g t) : ∀ {ds : List D} {ts : List T}, Rds Φ S ds ts → fall f ds = fall g ts
  | _, _, .nil => rfl
  | _, _, .cons a b => by
    simp only [fall, h _ _ a, fall_T h b]
def qLstF (f : List T → RT T) : TFn := one1 fun d => match litsT d with
  | some xs => f xs
  | none => .bad
theorem sf_lstF {f : List D → Sto → R D} {q : List T → RT T} (h : ∀ Φ S ds ts, Rds Φ S ds ts → Bnd Φ S → OkR Rd Φ S (f ds S) (q ts)) : FnT (fLst f) (qLstF q) := fn_one fun Φ S d t r hB => by
  unfold fLst
  rcases lits_T r with ⟨e1, e2⟩ | ⟨ds, ts, e1, e2, rs⟩
  · simp only [e1, e2]; trivial
  · simp only [e1, e2]; exact h _ _ _ _ rs hB
theorem bl_T {Φ : Nat → Prop} {S : Sto} (d : D) (t : T) (r : Rd Φ S d t) : blD d = blT t := by cases r <;> rfl
def qAll : TFn := qLstF fun xs => match fall blT xs with
  | some ns => .ok (.bl (ns.all id))
  | none => .bad
theorem sf_all : FnT fAll qAll := sf_lstF fun Φ S ds ts r hB => by
  rw [fall_T bl_T r]
  cases fall blT ts with
  | none => trivial
  | some ns => exact .here (.bl _)
def tyT : T → String
  | .non => "NoneType"
  | .bl _ => "bool"
  | .int _ => "int"
  | .str _ => "str"
  | .tup _ => "tuple"
  | .seq _ => "list"
  | .lst _ => "list"
  | .dct _ => "dict"
theorem ty_T {Φ : Nat → Prop} {S : Sto} {d : D} {t : T} (r : Rd Φ S d t) : tyD S d = some (tyT t) := by
  cases r with
  | lst _ e _ => simp only [tyD, e]; rfl
  | dct _ e _ => simp only [tyD, e]; rfl
  | _ => rfl
def tIsi (c : String) (p : TDen) : TDen := fun τ => (p τ).bind fun d => match kitB (tyT d) c with
  | some b => .ok (.bl b)
  | none => .bad
theorem snd_isi {k : String} (ha : SndE j a p) : SndE j (dIsi k a) (tIsi k p) := fun Φ S ε τ er hB => (ha Φ S ε τ er hB).bind fun S1 d t p1 r1 => by
  unfold isiD
  rw [ty_T r1]
  show OkR Rd Φ S1 (match kitB (tyT t) k with | some b => _ | none => _) _
  cases kitB (tyT t) k with
  | none => trivial
  | some b => exact .here (.bl _)
def signsT (x : Str) : List T := x.cps.toList.map fun c => .str ⟨#[c]⟩
theorem signs_T {Φ : Nat → Prop} {S : Sto} (x : Str) : Rds Φ S (signs x) (signsT x) := Rds.maps fun _ _ => .str _
end
end DL
namespace DL
open PySem L2
def Keep (Φ : Nat → Prop) (S S' : Sto) : Prop := ∀ (n : Nat) (o : O), ¬ Φ n → S[n]? = some o → S'[n]? = some o
theorem Keep.refl {Φ : Nat → Prop} {S : Sto} : Keep Φ S S := fun _ _ _ e => e
theorem Keep.trans {Φ : Nat → Prop} {S S1 S2 : Sto} (a : Keep Φ S S1) (b : Keep Φ S1 S2) : Keep Φ S S2 := fun n o h e => b n o h (a n o h e)
theorem Keep.pre {Φ : Nat → Prop} {S S' : Sto} (p : S <+: S') : Keep Φ S S' := fun n o _ e => by
  obtain ⟨E, rfl⟩ := p
  rw [List.getElem?_append_left (List.getElem?_eq_some_iff.mp e).1]
  exact e
def rqI : RlT Src (List T) := fun Φ S src ts => ∃ ds, (∀ S', Keep Φ S S' → src S' = some ds) ∧ Rds Φ S ds ts
abbrev TIt := TEnv → RT (List T)
abbrev SndI (j : Option Nat) (a : IDen) (q : TIt) : Prop := Snd rqI j a q
section
variable {j : Option Nat} {a b c : Den} {p q r : TDen} {as : DenA} {qs : TDenA} {ba bb : DenB} {γ δ : TDenB}
def tiAny (p : TDen) : TIt := fun τ => (p τ).bind fun d => match d with
  | .tup ts => .ok ts
  | .str x => .ok (signsT x)
  | d => (match litsT d with
    | some ts => .ok ts
    | none => .bad)
theorem si_any (ha : SndE j a p) : SndI j (iAny a) (tiAny p) := fun Φ S ε τ er hB => (ha Φ S ε τ er hB).bind fun S1 d t p1 r1 => by
  cases r1 with
  | tup rs => exact .here ⟨_, fun _ _ => rfl, rs⟩
  | str x => exact .here ⟨_, fun _ _ => rfl, signs_T x⟩
  | seq rs => exact .here ⟨_, fun _ _ => rfl, rs⟩
  | lst h e rs =>
    simp only [litems, e, litsT]
    exact .here ⟨_, fun S' k => by simp only [k _ _ h e], rs⟩
  | _ => trivial
abbrev TG := T → TEnv → Option TEnv
abbrev TGs := List T → TEnv → Option TEnv
def SndG (j : Option Nat) (g : GDen) (h : DL.TG) : Prop := ∀ Φ S ε τ d t, EnvR Φ j S ε τ → Rd Φ S d t → ∀ τ', h t τ = some τ' → ∃ ε', g d ε S = some ε' ∧ EnvR Φ j S ε' τ' ∧ ∀ i, j = some i → ε'[i]? = ε[i]? ∧ τ'[i]? = τ[i]?
def SndGs (j : Option Nat) (g : GDens) (h : DL.TGs) : Prop := ∀ Φ S ε τ d t, EnvR Φ j S ε τ → Rds Φ S d t → ∀ τ', h t τ = some τ' → ∃ ε', g d ε S = some ε' ∧ EnvR Φ j S ε' τ' ∧ ∀ i, j = some i → ε'[i]? = ε[i]? ∧ τ'[i]? = τ[i]?
def hN (i : Nat) : DL.TG := fun t τ => some (τ.set i (some t))
theorem sg_name (k : Nat) (h : j ≠ some k := by decide) : SndG j (gN k) (hN k) := fun Φ S ε τ d t er r τ' e => by
  cases e
  refine ⟨_, rfl, er.set k r, fun i hi => ?_⟩
  have hk : k ≠ i := fun q => h (by rw [hi, q])
  exact ⟨List.getElem?_set_ne hk, List.getElem?_set_ne hk⟩
def hsNil : DL.TGs := fun ts τ => match ts with
  | [] => some τ
  | _ => none
def hsCons (g : DL.TG) (r : DL.TGs) : DL.TGs := fun ts τ => match ts with
  | t :: ts => (g t τ).bind fun τ => r ts τ
  | [] => none
theorem sg_nil : SndGs j gsNil hsNil := fun Φ S ε τ d t er r τ' e => by
  cases r with
  | nil => cases e; exact ⟨ε, rfl, er, fun _ _ => ⟨rfl, rfl⟩⟩
  | cons => cases e
theorem sg_cons {g : GDen} {gs : GDens} {h : DL.TG} {hs : DL.TGs} (h1 : SndG j g h) (h2 : SndGs j gs hs) : SndGs j (gsCons g gs) (hsCons h hs) := fun Φ S ε τ d t er r τ' e => by
  cases r with
  | nil => cases e
  | cons r rs =>
    obtain ⟨τ1, e1, e2⟩ := Option.bind_eq_some_iff.mp (show (h _ τ).bind (fun τ => hs _ τ) = some τ' from e)
    obtain ⟨ε1, a1, a2, a3⟩ := h1 Φ S ε τ _ _ er r τ1 e1
    obtain ⟨ε2, b1, b2, b3⟩ := h2 Φ S ε1 τ1 _ _ a2 rs τ' e2
    refine ⟨ε2, ?_, b2, fun i hi => ⟨(b3 i hi).1.trans (a3 i hi).1, (b3 i hi).2.trans (a3 i hi).2⟩⟩
    show (g _ ε S).bind (fun ε => gs _ ε S) = _
    rw [a1]
    exact b1
def hT (n : Nat) (g : DL.TGs) : DL.TG := fun t τ => match t with
  | .tup ts => if ts.length = n then g ts τ else none
  | _ => none
def hL (n : Nat) (g : DL.TGs) : DL.TG := fun t τ => match litsT t with
  | some ts => if ts.length = n then g ts τ else none
  | none => none
theorem sg_tup {n : Nat} {g : GDens} {h : DL.TGs} (h1 : SndGs j g h) : SndG j (gT n g) (hT n h) := fun Φ S ε τ d t er r τ' e => by
  cases r with
  | tup rs =>
    simp only [hT] at e
    simp only [gT, rs.len]
    split at e
    · rename_i hn
      rw [if_pos hn]
      exact h1 Φ S ε τ _ _ er rs τ' e
    · cases e
  | _ => cases e
def noXT {α : Type} : RT α → RT α
  | .ok a => .ok a
  | _ => .bad
def tlcI (g : DL.TG) (c : TDenB) (e : TDen) (vs : List Nat) (τ : TEnv) : List T → List T → RT (List T)
  | [], acc => .ok acc
  | t :: r, acc => match g t (twipe τ vs) with
    | none => .bad
    | some τ1 => (noXT (c τ1)).bind fun k => if k = true then (noXT (e τ1)).bind fun x => (if acc.length < big then tlcI g c e vs τ r (acc ++ [x]) else .bad) else tlcI g c e vs τ r acc
def tLc (it : TIt) (g : DL.TG) (c : TDenB) (e : TDen) (vs : List Nat) : TDen := fun τ => (it τ).bind fun ts => (tlcI g c e vs τ ts []).bind fun us => .ok (.lst us)
theorem OkR.noX {β α : Type} {Rl : RlT β α} {Φ : Nat → Prop} {S : Sto} {r : R β} {q : RT α} (h : OkR Rl Φ S r q) : OkR Rl Φ S (DL.noX r) (noXT q) := by
  cases q with
  | ok t => obtain ⟨S', d, rfl, p, rl⟩ := h; exact ⟨S', d, rfl, p, rl⟩
  | exc c => trivial
  | bad => trivial
theorem lc_sim {g : GDen} {h : DL.TG} {e : Den} {x : TDen} {vs : List Nat} (hg : SndG j g h) (hc : SndB j ba γ) (he : SndE j e x) {Φ : Nat → Prop} {ε : Env} {τ : TEnv} {src : Src} {ds : List D} :
    ∀ (rest acc : List T) (restD accD : List D) (i m : Nat) (S : Sto), ds = ds.take i ++ restD → i ≤ ds.length → restD.length < m → (∀ S', Keep Φ S S' → src S' = some ds) → Rds Φ S restD rest → Rds Φ S accD acc → EnvR Φ j S ε τ → Bnd Φ S →
      OkR Rds Φ S (lcI src g ba e vs ε m i accD S) (tlcI h γ x vs τ rest acc)
  | _, _, _, _, _, 0, _, _, _, hm, _, _, _, _, _ => by omega
  | [], acc, [], accD, i, m + 1, S, hd, hi, hm, hs, .nil, ra, er, hB => by
    unfold lcI
    rw [hs S Keep.refl]
    have : ds[i]? = none := by
      rw [List.getElem?_eq_none_iff]
      have := congrArg List.length hd
      rw [List.append_nil, List.length_take] at this
      omega
    simp only [this]
    exact .here ra
  | t :: rest, acc, d :: restD, accD, i, m + 1, S, hd, hi, hm, hs, .cons r rs, ra, er, hB => by
    have hdi : ds[i]? = some d := by
      rw [hd, List.getElem?_append_right (by rw [List.length_take]; omega), List.length_take, Nat.min_eq_left hi, Nat.sub_self]
      rfl
    have hil : i < ds.length := (List.getElem?_eq_some_iff.mp hdi).1
    have hd' : ds = ds.take (i + 1) ++ restD := by
      have := List.take_append_drop (i + 1) ds
      have h2 : ds.drop (i + 1) = restD := by
        have h3 : ds.drop i = d :: restD := by
          conv => lhs; rw [hd]
          rw [List.drop_append_of_le_length (by rw [List.length_take]; omega), List.drop_eq_nil_of_le (by rw [List.length_take]; omega)]
          rfl
        rw [← List.drop_drop, h3]
        rfl
      rw [h2] at this
      exact this.symm
    unfold lcI tlcI
    rw [hs S Keep.refl]
    simp only [hdi]
    cases e1 : h t (twipe τ vs) with
    | none => trivial
    | some τ1 =>
      obtain ⟨ε1, g1, er1, _⟩ := hg Φ S _ _ d t (er.wipe vs) r τ1 e1
      simp only [g1]
      refine (hc Φ S ε1 τ1 er1 hB).noX.bind fun S1 k k' p1 r1 => ?_
      cases r1
      split
      · refine (he Φ S1 ε1 τ1 (er1.pre p1) (hB.pre p1)).noX.bind fun S2 d2 t2 p2 r2 => ?_
        rw [ra.len]
        split
        · exact lc_sim hg hc he rest (acc ++ [t2]) restD (accD ++ [d2]) (i + 1) m S2 hd' hil (by simp at hm; omega) (fun S' k => hs S' ((Keep.pre (p1.trans p2)).trans k)) ((rs.pre p1).pre p2) (((ra.pre p1).pre p2).app (.cons r2 .nil)) ((er.pre p1).pre p2) ((hB.pre p1).pre p2)
        · trivial
      · exact lc_sim hg hc he rest acc restD accD (i + 1) m S1 hd' hil (by simp at hm; omega) (fun S' k => hs S' ((Keep.pre p1).trans k)) (rs.pre p1) (ra.pre p1) (er.pre p1) (hB.pre p1)
theorem snd_lc {it : IDen} {ι : TIt} {g : GDen} {h : DL.TG} {e : Den} {x : TDen} {vs : List Nat} (hi : SndI j it ι) (hg : SndG j g h) (hc : SndB j ba γ) (he : SndE j e x) : SndE j (dLc it g ba e vs) (tLc ι h γ x vs) := fun Φ S ε τ er hB =>
  (hi Φ S ε τ er hB).bind fun S1 src ts p1 ⟨ds, r1, rs⟩ => by
    simp only [r1 S1 Keep.refl]
    refine (lc_sim hg hc he ts [] ds [] 0 (ds.length + 1) S1 rfl (Nat.zero_le _) (Nat.lt_succ_self _) r1 rs .nil (er.pre p1) (hB.pre p1)).bind fun S2 us ws p2 r2 => ?_
    exact .newL ((hB.pre p1).pre p2) r2
end
inductive TFl where
  | nx (τ : TEnv) | rt (t : T) | ex (c : Str) (τ : TEnv)
abbrev TSDen := TEnv → RT TFl
def plus (Φ : Nat → Prop) (n : Nat) : Nat → Prop := fun k => Φ k ∨ k = n
def frb (Φ : Nat → Prop) (j : Option Nat) (n : Nat) : Nat → Prop := match j with
  | none => Φ
  | some _ => plus Φ n
def OwnR (B : Nat) (Φ : Nat → Prop) (j : Option Nat) (n : Nat) (S : Sto) (ε : Env) (τ : TEnv) : Prop := match j with
  | none => EnvR Φ none S ε τ
  | some i => B ≤ n ∧ n < S.length ∧ (∃ ds ts, ε[i]? = some (some (.ref n)) ∧ S[n]? = some (.lst ds) ∧ Rds (plus Φ n) S ds ts ∧ τ[i]? = some (some (.lst ts))) ∧ EnvR (plus Φ n) (some i) S ε τ
theorem OwnR.env {B : Nat} {Φ : Nat → Prop} {j : Option Nat} {n : Nat} {S : Sto} {ε : Env} {τ : TEnv} (h : OwnR B Φ j n S ε τ) : EnvR (frb Φ j n) j S ε τ := by
  cases j with
  | none => exact h
  | some i => exact h.2.2.2
theorem OwnR.bnd {B : Nat} {Φ : Nat → Prop} {j : Option Nat} {n : Nat} {S : Sto} {ε : Env} {τ : TEnv} (h : OwnR B Φ j n S ε τ) (hb : Bnd Φ S) : Bnd (frb Φ j n) S := by
  cases j with
  | none => exact hb
  | some i =>
    intro k q
    rcases q with q | rfl
    · exact hb k q
    · exact h.2.1
theorem OwnR.keep {B : Nat} {Φ : Nat → Prop} {j : Option Nat} {n : Nat} {S S' : Sto} {ε : Env} {τ : TEnv} (h : OwnR B Φ j n S ε τ) (p : S <+: S') : OwnR B Φ j n S' ε τ := by
  cases j with
  | none => exact EnvR.pre h p
  | some i =>
    obtain ⟨h1, h2, ⟨ds, ts, a1, a2, a3, a4⟩, h4⟩ := h
    refine ⟨h1, Nat.lt_of_lt_of_le h2 p.length_le, ⟨ds, ts, a1, ?_, a3.pre p, a4⟩, h4.pre p⟩
    obtain ⟨E, rfl⟩ := p
    rw [List.getElem?_append_left h2]
    exact a2
theorem OwnR.rel {B : Nat} {Φ : Nat → Prop} {j : Option Nat} {n : Nat} {S : Sto} {ε : Env} {τ : TEnv} (h : OwnR B Φ j n S ε τ) (hb : ∀ k, Φ k → k < B) : EnvR Φ none S ε τ := by
  cases j with
  | none => exact h
  | some i =>
    obtain ⟨h1, h2, ⟨ds, ts, a1, a2, a3, a4⟩, h4⟩ := h
    refine ⟨h4.len, fun k t _ e => ?_⟩
    by_cases q : k = i
    · subst q
      rw [a4] at e
      cases e
      exact ⟨_, a1, .lst (fun q => by have := hb _ q; omega) a2 (a3.keep (fun _ _ q => .inl q) fun _ _ _ e => e)⟩
    · obtain ⟨d, e1, e2⟩ := h4.at_ k t (by simp; exact fun z => q z.symm) e
      exact ⟨d, e1, e2.keep (fun _ _ q => .inl q) fun _ _ _ e => e⟩
structure NxR (B : Nat) (Φ : Nat → Prop) (j : Option Nat) (n : Nat) (S : Sto) (j' : Option Nat) (S' : Sto) (ε' : Env) (τ' : TEnv) : Prop where
  ln : S.length ≤ S'.length
  kp : Keep (frb Φ j n) S S'
  lo : ∀ (k : Nat) (o : O), k < B → S[k]? = some o → S'[k]? = some o
  ow : ∃ n', OwnR B Φ j' n' S' ε' τ' ∧ ((j.isSome = true ∧ n' = n) ∨ S.length ≤ n' ∨ j' = none)
def OkF (B : Nat) (Φ : Nat → Prop) (j : Option Nat) (n : Nat) (S : Sto) (j' : Option Nat) (r : R Fl) : RT TFl → Prop
  | .ok (.nx τ') => ∃ S' ε', r = .ok (.nx ε') S' ∧ NxR B Φ j n S j' S' ε' τ'
  | .ok (.rt t) => ∃ S' d, r = .ok (.rt d) S' ∧ (∀ (k : Nat) (o : O), k < B → S[k]? = some o → S'[k]? = some o) ∧ Rd Φ S' d t ∧ S.length ≤ S'.length
  | .ok (.ex c τ') => ∃ S' ε', r = .ok (.ex c ε') S' ∧ NxR B Φ j n S none S' ε' τ'
  | .exc _ => True
  | .bad => True
def SndS (j j' : Option Nat) (a : SDen) (q : TSDen) : Prop := ∀ B Φ n S ε τ, OwnR B Φ j n S ε τ → (∀ k, Φ k → k < B) → B ≤ S.length → OkF B Φ j n S j' (a ε S) (q τ)
end DL
namespace DL
open PySem L2
section
variable {B n : Nat} {Φ : Nat → Prop} {j j' j1 j2 : Option Nat} {S S' S1 S2 : Sto} {ε ε' ε1 : Env} {τ τ' τ1 : TEnv}
theorem NxR.trans {n1 : Nat} (h : S.length ≤ S1.length) (kp : Keep (frb Φ j n) S S1) (lo : ∀ (k : Nat) (o : O), k < B → S[k]? = some o → S1[k]? = some o) (hn : (j.isSome = true ∧ n1 = n) ∨ S.length ≤ n1 ∨ j1 = none)
    (b : NxR B Φ j1 n1 S1 j2 S2 ε' τ') : NxR B Φ j n S j2 S2 ε' τ' := by
  refine ⟨Nat.le_trans h b.ln, fun k o hk e => b.kp k o (fun q => ?_) (kp k o hk e), fun k o hk e => b.lo k o hk (lo k o hk e), ?_⟩
  · have hl : k < S.length := (List.getElem?_eq_some_iff.mp e).1
    cases j1 with
    | none =>
      apply hk
      cases j with
      | none => exact q
      | some i => exact .inl q
    | some i1 =>
      rcases q with q | rfl
      · apply hk
        cases j with
        | none => exact q
        | some i => exact .inl q
      · rcases hn with ⟨hj, rfl⟩ | hn | hn
        · cases j with
          | none => cases hj
          | some i => exact hk (.inr rfl)
        · omega
        · cases hn
  · obtain ⟨n2, o2, h2⟩ := b.ow
    refine ⟨n2, o2, ?_⟩
    rcases h2 with ⟨hj, rfl⟩ | h2 | h2
    · rcases hn with hn | hn | hn
      · exact .inl hn
      · exact .inr (.inl hn)
      · subst hn; cases hj
    · exact .inr (.inl (Nat.le_trans h h2))
    · exact .inr (.inr h2)
theorem OkF.up {n1 : Nat} {r : R Fl} {q : RT TFl} (h : S.length ≤ S1.length) (kp : Keep (frb Φ j n) S S1) (lo : ∀ (k : Nat) (o : O), k < B → S[k]? = some o → S1[k]? = some o) (hn : (j.isSome = true ∧ n1 = n) ∨ S.length ≤ n1 ∨ j1 = none)
    (b : OkF B Φ j1 n1 S1 j2 r q) : OkF B Φ j n S j2 r q := by
  cases q with
  | ok f => cases f with
    | nx τ => obtain ⟨S', ε', e, x⟩ := b; exact ⟨S', ε', e, x.trans h kp lo hn⟩
    | rt t => obtain ⟨S', d, e, x, y, z⟩ := b; exact ⟨S', d, e, fun k o hk e => x k o hk (lo k o hk e), y, Nat.le_trans h z⟩
    | ex c τ => obtain ⟨S', ε', e, x⟩ := b; exact ⟨S', ε', e, x.trans h kp lo hn⟩
  | exc c => trivial
  | bad => trivial
theorem OkF.upp {r : R Fl} {q : RT TFl} (p : S <+: S1) (b : OkF B Φ j n S1 j2 r q) : OkF B Φ j n S j2 r q := by
  refine OkF.up (n1 := n) (j1 := j) p.length_le (Keep.pre p) (fun k o _ e => ?_) ?_ b
  · obtain ⟨E, rfl⟩ := p
    rw [List.getElem?_append_left (List.getElem?_eq_some_iff.mp e).1]
    exact e
  · cases j with
    | none => exact .inr (.inr rfl)
    | some i => exact .inl ⟨rfl, rfl⟩
theorem nx_here (ow : OwnR B Φ j n S ε τ) : NxR B Φ j n S j S ε τ := by
  refine ⟨Nat.le_refl _, Keep.refl, fun _ _ _ e => e, n, ow, ?_⟩
  cases j with
  | none => exact .inr (.inr rfl)
  | some i => exact .inl ⟨rfl, rfl⟩
theorem OwnR.drop (ow : OwnR B Φ j n S ε τ) (hb : ∀ k, Φ k → k < B) : NxR B Φ j n S none S ε τ :=
  ⟨Nat.le_refl _, Keep.refl, fun _ _ _ e => e, n, ow.rel hb, .inr (.inr rfl)⟩
theorem NxR.rel (h : NxR B Φ j n S j' S' ε' τ') (hb : ∀ k, Φ k → k < B) : NxR B Φ j n S none S' ε' τ' := by
  obtain ⟨n', o, _⟩ := h.ow
  exact ⟨h.ln, h.kp, h.lo, n', o.rel hb, .inr (.inr rfl)⟩
def tsE {α : Type} (q : RT α) (τ : TEnv) (κ : α → RT TFl) : RT TFl := match q with
  | .ok t => κ t
  | .exc c => .ok (.ex c τ)
  | .bad => .bad
theorem OkF.sE {β α : Type} {Rl : RlT β α} {r : R β} {q : RT α} {k : β → Sto → R Fl} {κ : α → RT TFl} (ow : OwnR B Φ j n S ε τ) (hb : ∀ k, Φ k → k < B) (h : OkR Rl (frb Φ j n) S r q)
    (hk : ∀ S' d t, S <+: S' → Rl (frb Φ j n) S' d t → OkF B Φ j n S' j' (k d S') (κ t)) : OkF B Φ j n S j' (DL.sE r ε k) (tsE q τ κ) := by
  cases q with
  | ok t =>
    obtain ⟨S', d, rfl, p, rl⟩ := h
    exact (hk S' d t p rl).upp p
  | exc c =>
    obtain ⟨S', rfl, p⟩ := h
    refine OkF.upp (q := .ok (.ex c τ)) p ⟨S', ε, rfl, (ow.keep p).drop hb⟩
  | bad => trivial
variable {a b : SDen} {q q' : TSDen}
theorem bnd_of (hb : ∀ k, Φ k → k < B) (hl : B ≤ S.length) : Bnd Φ S := fun k q => Nat.lt_of_lt_of_le (hb k q) hl
def tsNil : TSDen := fun τ => .ok (.nx τ)
theorem ss_nil : SndS j j sNil tsNil := fun B Φ n S ε τ ow hb hl => ⟨S, ε, rfl, nx_here ow⟩
def tsN (q : RT TFl) (k : TEnv → RT TFl) : RT TFl := match q with
  | .ok (.nx τ) => k τ
  | q => q
def tsSeq (q q' : TSDen) : TSDen := fun τ => tsN (q τ) q'
theorem ss_seq (ha : SndS j j1 a q) (hb' : SndS j1 j2 b q') : SndS j j2 (sSeq a b) (tsSeq q q') := fun B Φ n S ε τ ow hb hl => by
  have h := ha B Φ n S ε τ ow hb hl
  unfold sSeq tsSeq
  cases e : q τ with
  | ok f =>
    rw [e] at h
    cases f with
    | nx τ1 =>
      obtain ⟨S1, ε1, e1, x⟩ := h
      rw [e1]
      obtain ⟨n1, o1, h1⟩ := x.ow
      exact (hb' B Φ n1 S1 ε1 τ1 o1 hb (Nat.le_trans hl x.ln)).up x.ln x.kp x.lo h1
    | rt t => obtain ⟨S1, d, e1, x⟩ := h; rw [e1]; exact ⟨S1, d, rfl, x⟩
    | ex c τ1 => obtain ⟨S1, d, e1, x⟩ := h; rw [e1]; exact ⟨S1, d, rfl, x⟩
  | exc c => trivial
  | bad => trivial
variable {x y : Den} {p p' : TDen} {c : DenB} {γ : TDenB}
def tsRet (p : TDen) : TSDen := fun τ => tsE (p τ) τ fun t => .ok (.rt t)
theorem rt_of {d : D} {t : T} (r : Rd (frb Φ j n) S d t) : Rd Φ S d t := r.keep (fun k _ q => by cases j with | none => exact q | some i => exact .inl q) fun _ _ _ e => e
theorem ss_ret (hx : SndE j x p) : SndS j j' (sRet x) (tsRet p) := fun B Φ n S ε τ ow hb hl =>
  OkF.sE ow hb (hx _ S ε τ ow.env (ow.bnd (bnd_of hb hl))) fun S1 d t p1 r1 => ⟨S1, d, rfl, fun _ _ _ e => e, rt_of r1, Nat.le_refl _⟩
def tsAsg (p : TDen) (g : DL.TG) : TSDen := fun τ => tsE (p τ) τ fun t => match g t τ with
  | some τ' => .ok (.nx τ')
  | none => .bad
theorem OwnR.swap (ow : OwnR B Φ j n S ε τ) (er : EnvR (frb Φ j n) j S ε' τ') (h : ∀ i, j = some i → ε'[i]? = ε[i]? ∧ τ'[i]? = τ[i]?) : OwnR B Φ j n S ε' τ' := by
  cases j with
  | none => exact er
  | some i =>
    obtain ⟨h1, h2, ⟨ds, ts, a1, a2, a3, a4⟩, h4⟩ := ow
    obtain ⟨b1, b2⟩ := h i rfl
    exact ⟨h1, h2, ⟨ds, ts, b1.trans a1, a2, a3, b2.trans a4⟩, er⟩
theorem ss_asg {g : GDen} {h : DL.TG} (hx : SndE j x p) (hg : SndG j g h) : SndS j j (sAsg x g) (tsAsg p h) := fun B Φ n S ε τ ow hb hl =>
  OkF.sE ow hb (hx _ S ε τ ow.env (ow.bnd (bnd_of hb hl))) fun S1 d t p1 r1 => by
    cases e : h t τ with
    | none => trivial
    | some τ' =>
      obtain ⟨ε', g1, g2, g3⟩ := hg _ S1 ε τ d t (ow.env.pre p1) r1 τ' e
      rw [g1]
      exact ⟨S1, ε', rfl, nx_here ((ow.keep p1).swap g2 g3)⟩
def tsIf (c : TDenB) (a b : TSDen) : TSDen := fun τ => tsE (c τ) τ fun k => if k = true then a τ else b τ
theorem ss_if (hc : SndB j c γ) (ha : SndS j j' a q) (hb' : SndS j j' b q') : SndS j j' (sIf c a b) (tsIf γ q q') := fun B Φ n S ε τ ow hb hl =>
  OkF.sE ow hb (hc _ S ε τ ow.env (ow.bnd (bnd_of hb hl))) fun S1 d t p1 r1 => by
    cases r1
    split
    · exact ha B Φ n S1 ε τ (ow.keep p1) hb (Nat.le_trans hl p1.length_le)
    · exact hb' B Φ n S1 ε τ (ow.keep p1) hb (Nat.le_trans hl p1.length_le)
def tForL (g : DL.TG) (b : TSDen) : List T → TSDen
  | [], τ => .ok (.nx τ)
  | t :: r, τ => match g t τ with
    | none => .bad
    | some τ1 => tsN (b τ1) (tForL g b r)
def tsFor (it : TIt) (g : DL.TG) (b : TSDen) : TSDen := fun τ => tsE (it τ) τ fun ts => tForL g b ts τ
theorem drop_step {α : Type} {ds restD : List α} {d : α} {i : Nat} (h : ds.drop i = d :: restD) : ds[i]? = some d ∧ ds.drop (i + 1) = restD := by
  constructor
  · have := congrArg (fun l => l[0]?) h
    simpa [List.getElem?_drop] using this
  · rw [← List.drop_drop, h]
    rfl
theorem for_sim {g : GDen} {h : DL.TG} (hg : SndG j g h) (hbd : SndS j j a q) {src : Src} {ds : List D} {S0 : Sto} {n0 : Nat} (hb : ∀ k, Φ k → k < B) (hl : B ≤ S0.length) (hs : ∀ S', Keep (frb Φ j n0) S0 S' → src S' = some ds) :
    ∀ (rest : List T) (restD : List D) (i m : Nat) (S : Sto) (ε : Env) (τ : TEnv), ds.drop i = restD → restD.length < m → Rds (frb Φ j n0) S0 restD rest → NxR B Φ j n0 S0 j S ε τ →
      OkF B Φ j n0 S0 j (forI src g a m i ε S) (tForL h q rest τ)
  | _, _, _, 0, _, _, _, _, hm, _, _ => by omega
  | [], [], i, m + 1, S, ε, τ, hd, hm, .nil, nx => by
    have hi : ds[i]? = none := by
      rw [List.getElem?_eq_none_iff]
      exact List.drop_eq_nil_iff.mp hd
    unfold forI
    rw [hs S nx.kp]
    simp only [hi]
    exact ⟨S, ε, rfl, nx⟩
  | t :: rest, d :: restD, i, m + 1, S, ε, τ, hd, hm, .cons r rs, nx => by
    obtain ⟨hdi, hd'⟩ := drop_step hd
    unfold forI tForL
    rw [hs S nx.kp]
    simp only [hdi]
    cases e1 : h t τ with
    | none => trivial
    | some τ1 =>
      obtain ⟨n1, o1, h1⟩ := nx.ow
      have rd : Rd (frb Φ j n1) S d t := r.keep (fun k hk q => by
        cases j with
        | none => exact q
        | some i0 =>
          rcases q with q | rfl
          · exact .inl q
          · rcases h1 with ⟨_, h1⟩ | h1 | h1
            · exact .inr h1
            · omega
            · cases h1) nx.kp
      obtain ⟨ε1, g1, er1, g3⟩ := hg _ S ε τ d t o1.env rd τ1 e1
      simp only [g1]
      have hbody := hbd B Φ n1 S ε1 τ1 (o1.swap er1 g3) hb (Nat.le_trans hl nx.ln)
      cases e2 : q τ1 with
      | ok f =>
        rw [e2] at hbody
        cases f with
        | nx τ2 =>
          obtain ⟨S2, ε2, e3, nx2⟩ := hbody
          rw [e3]
          exact for_sim hg hbd hb hl hs rest restD (i + 1) m S2 ε2 τ2 hd' (by simp at hm; omega) rs (nx2.trans nx.ln nx.kp nx.lo h1)
        | rt t2 => obtain ⟨S2, d2, e3, x2⟩ := hbody; rw [e3]; exact ⟨S2, d2, rfl, fun k o hk e => x2.1 k o hk (nx.lo k o hk e), x2.2.1, Nat.le_trans nx.ln x2.2.2⟩
        | ex c τ2 => obtain ⟨S2, d2, e3, x2⟩ := hbody; rw [e3]; exact ⟨S2, d2, rfl, x2.trans nx.ln nx.kp nx.lo h1⟩
      | exc c => trivial
      | bad => trivial
theorem ss_for {it : IDen} {ι : TIt} {g : GDen} {h : DL.TG} (hi : SndI j it ι) (hg : SndG j g h) (hbd : SndS j j a q) : SndS j j (sFor it g a) (tsFor ι h q) := fun B Φ n S ε τ ow hb hl =>
  OkF.sE ow hb (hi _ S ε τ ow.env (ow.bnd (bnd_of hb hl))) fun S1 src ts p1 ⟨ds, r1, rs⟩ => by
    simp only [r1 S1 Keep.refl]
    exact for_sim hg hbd hb (Nat.le_trans hl p1.length_le) r1 ts ds 0 (ds.length + 1) S1 ε τ rfl (Nat.lt_succ_self _) rs (nx_here (ow.keep p1))
def trun (np nN : Nat) (q : TSDen) : TFn := fun ts => if ts.length = np then (match q (ts.map some ++ List.replicate (nN - np) none) with
  | .ok (.nx _) => .ok .non
  | .ok (.rt t) => .ok t
  | .ok (.ex c _) => .exc c
  | _ => .bad) else .bad
theorem pre_ofT {α : Type} : ∀ {l m : List α}, l.length ≤ m.length → (∀ (k : Nat) (o : α), k < l.length → l[k]? = some o → m[k]? = some o) → l <+: m
  | [], m, _, _ => List.nil_prefix
  | a :: l, [], h, _ => by simp at h
  | a :: l, b :: m, h, k => by
    have e : b = a := by simpa using k 0 a (by simp) rfl
    rw [e]
    exact (List.prefix_cons_inj a).mpr (pre_ofT (by simpa using h) fun i o hi ho => by simpa using k (i + 1) o (by simpa using hi) (by simpa using ho))
theorem env_start : ∀ {ds : List D} {ts : List T}, Rds Φ S ds ts → ∀ m : Nat, EnvR Φ none S (ds.map some ++ List.replicate m none) (ts.map some ++ List.replicate m none) := fun {ds ts} r m => by
  refine ⟨by simp [r.len], fun i t _ e => ?_⟩
  by_cases h : i < ts.length
  · rw [List.getElem?_append_left (by simpa using h), List.getElem?_map] at e
    obtain ⟨u, e1, e2⟩ := Option.map_eq_some_iff.mp e
    cases e2
    obtain ⟨d, e3, e4⟩ := r.get e1
    exact ⟨d, by rw [List.getElem?_append_left (by simpa [r.len] using h), List.getElem?_map, e3]; rfl, e4⟩
  · rw [List.getElem?_append_right (by simpa using Nat.le_of_not_lt h), List.getElem?_replicate] at e
    split at e <;> cases e
theorem fn_T {np nN : Nat} (h : SndS none j' a q) : FnT (runFn np nN a) (trun np nN q) := fun Φ S ds ts r hB => by
  unfold runFn trun
  rw [r.len]
  split
  · have h1 := h S.length Φ 0 S _ _ (show OwnR S.length Φ none 0 S _ _ from env_start r (nN - np)) hB (Nat.le_refl _)
    cases e : q (ts.map some ++ List.replicate (nN - np) none) with
    | ok f =>
      rw [e] at h1
      cases f with
      | nx τ' => obtain ⟨S', ε', e1, nx⟩ := h1; rw [e1]; exact ⟨S', _, rfl, pre_ofT nx.ln fun k o hk e => nx.lo k o hk e, .non⟩
      | rt t => obtain ⟨S', d, e1, lo, r1, ln⟩ := h1; rw [e1]; exact ⟨S', d, rfl, pre_ofT ln fun k o hk e => lo k o hk e, r1⟩
      | ex c τ' => obtain ⟨S', ε', e1, nx⟩ := h1; rw [e1]; exact ⟨S', rfl, pre_ofT nx.ln fun k o hk e => nx.lo k o hk e⟩
    | exc c => trivial
    | bad => trivial
  · trivial
end
def FnAt (f : Fn) (ts : List T) (r : RT T) : Prop := ∀ Φ S ds, Rds Φ S ds ts → Bnd Φ S → OkR Rd Φ S (f ds S) r
open Classical in
noncomputable def tv (f : Fn) : TFn := fun ts => if h : ∃ t, FnAt f ts (.ok t) then .ok h.choose else if h : ∃ c, FnAt f ts (.exc c) then .exc h.choose else .bad
theorem tv_T (f : Fn) : FnT f (tv f) := fun Φ S ds ts r hB => by
  unfold tv
  split
  · rename_i h; exact h.choose_spec Φ S ds r hB
  · split
    · rename_i h; exact h.choose_spec Φ S ds r hB
    · trivial
mutual
theorem lay_T : ∀ (t : T) (S : Sto), ∃ S' d, S <+: S' ∧ Rd (fun _ => False) S' d t
  | .non, S => ⟨S, _, List.prefix_rfl, .non⟩
  | .bl b, S => ⟨S, _, List.prefix_rfl, .bl b⟩
  | .int i, S => ⟨S, _, List.prefix_rfl, .int i⟩
  | .str x, S => ⟨S, _, List.prefix_rfl, .str x⟩
  | .tup ts, S => let ⟨S', ds, p, r⟩ := lay_Ts ts S; ⟨S', _, p, .tup r⟩
  | .seq ts, S => let ⟨S', ds, p, r⟩ := lay_Ts ts S; ⟨S', _, p, .seq r⟩
  | .lst ts, S => let ⟨S', ds, p, r⟩ := lay_Ts ts S; ⟨S' ++ [.lst ds], .ref S'.length, p.trans (List.prefix_append _ _), .lst id (by simp) (r.pre (List.prefix_append _ _))⟩
  | .dct ts, S => let ⟨S', ds, p, r⟩ := lay_Tk ts S; ⟨S' ++ [.dct ds], .ref S'.length, p.trans (List.prefix_append _ _), .dct id (by simp) (r.pre (List.prefix_append _ _))⟩
theorem lay_Ts : ∀ (t : List T) (S : Sto), ∃ S' d, S <+: S' ∧ Rds (fun _ => False) S' d t
  | [], S => ⟨S, _, List.prefix_rfl, .nil⟩
  | t :: ts, S => let ⟨S1, d, p1, r1⟩ := lay_T t S; let ⟨S2, ds, p2, r2⟩ := lay_Ts ts S1; ⟨S2, _, p1.trans p2, .cons (r1.pre p2) r2⟩
theorem lay_Tk : ∀ (t : List (Key × T)) (S : Sto), ∃ S' d, S <+: S' ∧ Rdk (fun _ => False) S' d t
  | [], S => ⟨S, _, List.prefix_rfl, .nil⟩
  | (k, t) :: ts, S => let ⟨S1, d, p1, r1⟩ := lay_T t S; let ⟨S2, ds, p2, r2⟩ := lay_Tk ts S1; ⟨S2, _, p1.trans p2, .cons (r1.pre p2) r2⟩
end
theorem FnAt.one {f : Fn} {ts : List T} {r r' : RT T} (h : FnAt f ts r) (h' : FnAt f ts r') : r = .bad ∨ r' = .bad ∨ r = r' := by
  obtain ⟨S, ds, _, rs⟩ := lay_Ts ts []
  have a := h _ S ds rs (fun _ q => q.elim)
  have b := h' _ S ds rs (fun _ q => q.elim)
  cases r with
  | ok t =>
    obtain ⟨S1, d1, e1, _, r1⟩ := a
    cases r' with
    | ok u =>
      obtain ⟨S2, d2, e2, _, r2⟩ := b
      rw [e1] at e2
      cases e2
      rw [r1.one r2]
      exact .inr (.inr rfl)
    | exc c => obtain ⟨S2, e2, _⟩ := b; rw [e1] at e2; cases e2
    | bad => exact .inr (.inl rfl)
  | exc c =>
    obtain ⟨S1, e1, _⟩ := a
    cases r' with
    | ok u => obtain ⟨S2, d2, e2, _⟩ := b; rw [e1] at e2; cases e2
    | exc c => obtain ⟨S2, e2, _⟩ := b; rw [e1] at e2; cases e2; exact .inr (.inr rfl)
    | bad => exact .inr (.inl rfl)
  | bad => exact .inl rfl
theorem tv_at (f : Fn) (ts : List T) : FnAt f ts (tv f ts) := fun Φ S ds r hB => tv_T f Φ S ds ts r hB
theorem tv_eq {f : Fn} {ts : List T} {r : RT T} (h : FnAt f ts r) (hr : r ≠ .bad) : tv f ts = r := by
  rcases FnAt.one h (tv_at f ts) with e | e | e
  · exact absurd e hr
  · exfalso
    unfold tv at e
    cases r with
    | ok t => rw [dif_pos ⟨t, h⟩] at e; cases e
    | exc c =>
      split at e
      · cases e
      · rw [dif_pos ⟨c, h⟩] at e; cases e
    | bad => exact hr rfl
  · exact e.symm
theorem tv_ok {f : Fn} {ts : List T} {t : T} (h : FnAt f ts (.ok t)) : tv f ts = .ok t := tv_eq h (fun z => by cases z)
theorem FnT.at {f : Fn} {q : TFn} (h : FnT f q) (ts : List T) : FnAt f ts (q ts) := fun Φ S ds r hB => h Φ S ds ts r hB
theorem tv_of {f : Fn} {q : TFn} {ts : List T} {r : RT T} (h : FnT f q) (e : q ts = r) (hr : r ≠ .bad) : tv f ts = r := tv_eq (e ▸ h.at ts) hr
end DL
namespace DL
open PySem L2
mutual
def unT : T → D
  | .non => .non | .bl b => .bl b | .int i => .int i | .str s => .str s
  | .tup ts => .tup (unTs ts)
  | .seq ts => .seq (unTs ts)
  | .lst _ => .non
  | .dct _ => .non
def unTs : List T → List D
  | [] => []
  | t :: ts => unT t :: unTs ts
end
mutual
def plT : T → Bool
  | .non => true | .bl _ => true | .int _ => true | .str _ => true
  | .tup ts => plTs ts
  | .seq ts => plTs ts
  | .lst _ => false
  | .dct _ => false
def plTs : List T → Bool
  | [] => true
  | t :: ts => plT t && plTs ts
end
section
variable {Φ : Nat → Prop} {S : Sto}
mutual
theorem rd_pl : ∀ {t : T}, plT t = true → Rd Φ S (unT t) t
  | .non, _ => .non
  | .bl b, _ => .bl b
  | .int i, _ => .int i
  | .str x, _ => .str x
  | .tup ts, h => .tup (rds_pl h)
  | .seq ts, h => .seq (rds_pl h)
  | .lst _, h => by cases h
  | .dct _, h => by cases h
theorem rds_pl : ∀ {t : List T}, plTs t = true → Rds Φ S (unTs t) t
  | [], _ => .nil
  | t :: ts, h => by
    unfold plTs at h
    rw [Bool.and_eq_true] at h
    exact .cons (rd_pl h.1) (rds_pl h.2)
end
mutual
theorem of_pl : ∀ {t : T} {d : D}, plT t = true → Rd Φ S d t → d = unT t
  | .non, _, _, .non => rfl
  | .bl b, _, _, .bl _ => rfl
  | .int i, _, _, .int _ => rfl
  | .str x, _, _, .str _ => rfl
  | .tup ts, _, h, .tup r => by rw [ofs_pl (show plTs ts = true from h) r]; rfl
  | .seq ts, _, h, .seq r => by rw [ofs_pl (show plTs ts = true from h) r]; rfl
theorem ofs_pl : ∀ {t : List T} {d : List D}, plTs t = true → Rds Φ S d t → d = unTs t
  | [], _, _, .nil => rfl
  | t :: ts, _, h, .cons r rs => by
    unfold plTs at h
    rw [Bool.and_eq_true] at h
    rw [of_pl h.1 r, ofs_pl h.2 rs]
    rfl
end
theorem unTs_map : ∀ ts : List T, unTs ts = ts.map unT
  | [] => rfl
  | t :: ts => by rw [unTs, unTs_map ts]; rfl
theorem plTs_iff : ∀ {ts : List T}, plTs ts = true ↔ ∀ t ∈ ts, plT t = true
  | [] => by simp [plTs]
  | t :: ts => by simp [plTs, plTs_iff (ts := ts)]
end
theorem tv_pur {f : Fn} {ts : List T} {t : T} (h : Pur (f (unTs ts)) (unT t)) (hs : plTs ts = true) (ht : plT t = true) : tv f ts = .ok t := tv_ok fun Φ S es r hB => by
  rw [ofs_pl hs r]
  obtain ⟨E, e⟩ := h S
  exact ⟨_, _, e, List.prefix_append _ _, rd_pl ht⟩
def tscr (ns : List Int) : T := .seq (ns.map .int)
def tstrs (xs : List Str) : T := .tup (xs.map .str)
def lints (xs : List Int) : T := .lst (xs.map .int)
mutual
def encT : Deed → T
  | .num i => .tup [.str "number", .int i]
  | .nam x => .tup [.str "name", .str x]
  | .dod x => .tup [.str "do", .str x]
  | .ask => .tup [.str "ask"]
  | .rd x => .tup [.str "read", .str x]
  | .wr x a => .tup [.str "write", .str x, encT a]
  | .say a => .tup [.str "say", encT a]
  | .lt x a b => .tup [.str "let", .str x, encT a, encT b]
  | .own x a b => .tup [.str "own", .str x, encT a, encT b]
  | .iff a b c => .tup [.str "if", encT a, encT b, encT c]
  | .two w a b => .tup [.str w.w, encT a, encT b]
  | .call i ps hs => .tup [.str "call", .int i, .tup (encTs ps), .tup (encTs hs)]
def encTs : List Deed → List T
  | [] => []
  | d :: ds => encT d :: encTs ds
end
theorem encTs_map : ∀ ds : List Deed, encTs ds = ds.map encT
  | [] => rfl
  | d :: ds => by rw [encTs, encTs_map ds]; rfl
mutual
theorem unT_enc : ∀ d : Deed, unT (encT d) = enc d ∧ plT (encT d) = true
  | .num i => ⟨rfl, rfl⟩
  | .nam x => ⟨rfl, rfl⟩
  | .dod x => ⟨rfl, rfl⟩
  | .ask => ⟨rfl, rfl⟩
  | .rd x => ⟨rfl, rfl⟩
  | .wr x a => by simp [encT, enc, unT, unTs, plT, plTs, unT_enc a]
  | .say a => by simp [encT, enc, unT, unTs, plT, plTs, unT_enc a]
  | .lt x a b => by simp [encT, enc, unT, unTs, plT, plTs, unT_enc a, unT_enc b]
  | .own x a b => by simp [encT, enc, unT, unTs, plT, plTs, unT_enc a, unT_enc b]
  | .iff a b c => by simp [encT, enc, unT, unTs, plT, plTs, unT_enc a, unT_enc b, unT_enc c]
  | .two w a b => by simp [encT, enc, unT, unTs, plT, plTs, unT_enc a, unT_enc b]
  | .call i ps hs => by simp [encT, enc, unT, unTs, plT, plTs, unTs_enc ps, unTs_enc hs]
theorem unTs_enc : ∀ d : List Deed, unTs (encTs d) = encs d ∧ plTs (encTs d) = true
  | [] => ⟨rfl, rfl⟩
  | d :: ds => by simp [encTs, encs, unTs, plTs, unT_enc d, unTs_enc ds]
end
theorem unT_strs (xs : List Str) : unT (tstrs xs) = tstr xs ∧ plT (tstrs xs) = true := by
  unfold tstrs tstr
  refine ⟨?_, ?_⟩
  · rw [unT, unTs_map, List.map_map]; rfl
  · rw [plT, plTs_iff]; intro t ht; obtain ⟨x, _, rfl⟩ := List.mem_map.mp ht; rfl
theorem unT_scr (xs : List Int) : unT (tscr xs) = scr xs ∧ plT (tscr xs) = true := by
  unfold tscr scr
  refine ⟨?_, ?_⟩
  · rw [unT, unTs_map, List.map_map]; rfl
  · rw [plT, plTs_iff]; intro t ht; obtain ⟨x, _, rfl⟩ := List.mem_map.mp ht; rfl
def encRT (r : Rule) : T := .tup [tstrs r.ns, tstrs r.hs, encT r.b]
def encRsT (rs : List Rule) : T := .tup (rs.map encRT)
theorem unT_rule (r : Rule) : unT (encRT r) = encR r ∧ plT (encRT r) = true := by
  unfold encRT encR
  refine ⟨?_, ?_⟩
  · simp only [unT, unTs, (unT_strs _).1, (unT_enc _).1]
  · simp only [plT, plTs, (unT_strs _).2, (unT_enc _).2]; rfl
theorem unT_rules (rs : List Rule) : unT (encRsT rs) = encRs rs ∧ plT (encRsT rs) = true := by
  unfold encRsT encRs
  refine ⟨?_, ?_⟩
  · rw [unT, unTs_map, List.map_map]
    congr 1
    exact List.map_congr_left fun r _ => (unT_rule r).1
  · rw [plT, plTs_iff]; intro t ht; obtain ⟨x, _, rfl⟩ := List.mem_map.mp ht; exact (unT_rule x).2
theorem rd_ints {Φ : Nat → Prop} {S : Sto} (xs : List Int) : Rds Φ S (xs.map .int) (xs.map .int) := Rds.maps fun _ _ => .int _
end DL
namespace DL
open PySem L2
abbrev Om := List (Str × T)
inductive Rdf (Φ : Nat → Prop) (S : Sto) : List (Str × D) → Om → Prop
  | nil : Rdf Φ S [] []
  | cons {k : Str} {d : D} {ds : List (Str × D)} {t : T} {ts : Om} : Rd Φ S d t → Rdf Φ S ds ts → Rdf Φ S ((k, d) :: ds) ((k, t) :: ts)
theorem Rdf.keep {Φ Ψ : Nat → Prop} {S S' : Sto} (hΦ : ∀ n, n < S.length → Ψ n → Φ n) (hS : ∀ (n : Nat) (o : O), ¬ Φ n → S[n]? = some o → S'[n]? = some o) : ∀ {ds : List (Str × D)} {ts : Om}, Rdf Φ S ds ts → Rdf Ψ S' ds ts
  | _, _, .nil => .nil
  | _, _, .cons h t => .cons (h.keep hΦ hS) (Rdf.keep hΦ hS t)
theorem Rdf.len {Φ : Nat → Prop} {S : Sto} : ∀ {ds : List (Str × D)} {ts : Om}, Rdf Φ S ds ts → ds.length = ts.length
  | _, _, .nil => rfl
  | _, _, .cons _ t => congrArg (· + 1) (Rdf.len t)
theorem Rdf.look {Φ : Nat → Prop} {S : Sto} (f : Str) : ∀ {ds : List (Str × D)} {ts : Om}, Rdf Φ S ds ts → (ds.lookup f = none ∧ ts.lookup f = none) ∨ ∃ d t, ds.lookup f = some d ∧ ts.lookup f = some t ∧ Rd Φ S d t
  | _, _, .nil => .inl ⟨rfl, rfl⟩
  | _, _, .cons (k := k) h q => by
    simp only [List.lookup_cons]
    cases f == k with
    | true => exact .inr ⟨_, _, rfl, rfl, h⟩
    | false => exact Rdf.look f q
def putFT (f : Str) (v : T) : Om → Om
  | [] => [(f, v)]
  | (g, x) :: r => if g = f then (g, v) :: r else (g, x) :: putFT f v r
theorem Rdf.put {Φ : Nat → Prop} {S : Sto} (f : Str) {d : D} {t : T} (r : Rd Φ S d t) : ∀ {ds : List (Str × D)} {ts : Om}, Rdf Φ S ds ts → Rdf Φ S (putFD f d ds) (putFT f t ts)
  | _, _, .nil => .cons r .nil
  | _, _, .cons (k := k) h q => by
    unfold putFD putFT
    split
    · exact .cons r q
    · exact .cons h (Rdf.put f r q)
def ObR (Φ : Nat → Prop) (m : Nat) (c : Str) (S : Sto) (ω : Om) : Prop := ∃ fs, S[m]? = some (.ins c fs) ∧ Rdf (plus Φ m) S fs ω
def Kp (m : Nat) (S S' : Sto) : Prop := S.length ≤ S'.length ∧ ∀ (n : Nat) (o : O), n ≠ m → S[n]? = some o → S'[n]? = some o
theorem Kp.refl {m : Nat} {S : Sto} : Kp m S S := ⟨Nat.le_refl _, fun _ _ _ e => e⟩
theorem Kp.trans {m : Nat} {S S1 S2 : Sto} (a : Kp m S S1) (b : Kp m S1 S2) : Kp m S S2 := ⟨Nat.le_trans a.1 b.1, fun n o h e => b.2 n o h (a.2 n o h e)⟩
theorem Kp.pre {m : Nat} {S S' : Sto} (p : S <+: S') : Kp m S S' := ⟨p.length_le, fun n o _ e => by
  obtain ⟨E, rfl⟩ := p
  rw [List.getElem?_append_left (List.getElem?_eq_some_iff.mp e).1]
  exact e⟩
section
variable {Φ : Nat → Prop} {m : Nat} {S S' : Sto}
theorem Rd.kp (p : Kp m S S') {d : D} {t : T} (h : Rd (plus Φ m) S d t) : Rd (plus Φ m) S' d t := h.keep (fun _ _ q => q) fun n o hn e => p.2 n o (fun z => hn (.inr z)) e
theorem Rds.kp (p : Kp m S S') {d : List D} {t : List T} (h : Rds (plus Φ m) S d t) : Rds (plus Φ m) S' d t := h.keep (fun _ _ q => q) fun n o hn e => p.2 n o (fun z => hn (.inr z)) e
theorem EnvR.kp (p : Kp m S S') {j : Option Nat} {ε : Env} {τ : TEnv} (h : EnvR (plus Φ m) j S ε τ) : EnvR (plus Φ m) j S' ε τ := h.keep (fun _ _ q => q) fun n o hn e => p.2 n o (fun z => hn (.inr z)) e
theorem ObR.pre {c : Str} {ω : Om} (p : S <+: S') (h : ObR Φ m c S ω) : ObR Φ m c S' ω := by
  obtain ⟨fs, e, r⟩ := h
  obtain ⟨E, rfl⟩ := p
  exact ⟨fs, by rw [List.getElem?_append_left (List.getElem?_eq_some_iff.mp e).1]; exact e, r.keep (fun _ _ q => q) fun n o _ e => by rw [List.getElem?_append_left (List.getElem?_eq_some_iff.mp e).1]; exact e⟩
theorem Bnd.kp (h : Bnd (plus Φ m) S) (p : Kp m S S') : Bnd (plus Φ m) S' := fun n q => Nat.lt_of_lt_of_le (h n q) p.1
end
def OkR2 {β α : Type} (Rl : RlT β α) (Φ : Nat → Prop) (m : Nat) (c : Str) (S : Sto) (r : R β) : RT (α × Om) → Prop
  | .ok (t, ω) => ∃ S' d, r = .ok d S' ∧ Kp m S S' ∧ ObR Φ m c S' ω ∧ Rl (plus Φ m) S' d t
  | .exc x => ∃ S', r = .exc x S' ∧ Kp m S S'
  | .bad => True
theorem OkR2.bind {β α β' α' : Type} {Rl : RlT β α} {Rl' : RlT β' α'} {Φ : Nat → Prop} {m : Nat} {c : Str} {S : Sto} {r : R β} {q : RT (α × Om)} {k : β → Sto → R β'} {κ : α × Om → RT (α' × Om)} (h : OkR2 Rl Φ m c S r q)
    (hk : ∀ S' d t ω, Kp m S S' → ObR Φ m c S' ω → Rl (plus Φ m) S' d t → OkR2 Rl' Φ m c S' (k d S') (κ (t, ω))) : OkR2 Rl' Φ m c S (r.bind k) (q.bind κ) := by
  cases q with
  | ok t =>
    obtain ⟨t, ω⟩ := t
    obtain ⟨S', d, rfl, p, ob, rl⟩ := h
    have := hk S' d t ω p ob rl
    simp only [R.bind_ok, RT.bind_ok]
    cases e : κ (t, ω) with
    | ok u => obtain ⟨u, ω'⟩ := u; rw [e] at this; obtain ⟨S2, d2, e2, p2, ob2, r2⟩ := this; exact ⟨S2, d2, e2, p.trans p2, ob2, r2⟩
    | exc c => rw [e] at this; obtain ⟨S2, e2, p2⟩ := this; exact ⟨S2, e2, p.trans p2⟩
    | bad => trivial
  | exc c => obtain ⟨S', rfl, p⟩ := h; exact ⟨S', rfl, p⟩
  | bad => trivial
theorem OkR2.here {β α : Type} {Rl : RlT β α} {Φ : Nat → Prop} {m : Nat} {c : Str} {S : Sto} {d : β} {t : α} {ω : Om} (ob : ObR Φ m c S ω) (h : Rl (plus Φ m) S d t) : OkR2 Rl Φ m c S (.ok d S) (.ok (t, ω)) := ⟨S, d, rfl, Kp.refl, ob, h⟩
theorem OkR2.of {β α : Type} {Rl : RlT β α} {Φ : Nat → Prop} {m : Nat} {c : Str} {S : Sto} {r : R β} {q : RT α} {ω : Om} (ob : ObR Φ m c S ω) (h : OkR Rl (plus Φ m) S r q) : OkR2 Rl Φ m c S r (q.bind fun t => .ok (t, ω)) := by
  cases q with
  | ok t => obtain ⟨S', d, rfl, p, rl⟩ := h; exact ⟨S', d, rfl, Kp.pre p, ob.pre p, rl⟩
  | exc x => obtain ⟨S', rfl, p⟩ := h; exact ⟨S', rfl, Kp.pre p⟩
  | bad => trivial
structure At (Φ : Nat → Prop) (m k : Nat) (c : Str) (S : Sto) (ε : Env) (τ : TEnv) (ω : Om) : Prop where
  e : EnvR (plus Φ m) (some k) S ε τ
  o : ε[k]? = some (some (.ref m))
  b : Bnd (plus Φ m) S
  f : ¬ Φ m
  r : ObR Φ m c S ω
theorem At.kp {Φ : Nat → Prop} {m k : Nat} {c : Str} {S S' : Sto} {ε : Env} {τ : TEnv} {ω ω' : Om} (h : At Φ m k c S ε τ ω) (p : Kp m S S') (ob : ObR Φ m c S' ω') : At Φ m k c S' ε τ ω' := ⟨h.e.kp p, h.o, h.b.kp p, h.f, ob⟩
def Snd2 {β α : Type} (Rl : RlT β α) (k : Nat) (c : Str) (a : Env → Sto → R β) (q : TEnv → Om → RT (α × Om)) : Prop := ∀ Φ m S ε τ ω, At Φ m k c S ε τ ω → OkR2 Rl Φ m c S (a ε S) (q τ ω)
abbrev ODen := TEnv → Om → RT (T × Om)
abbrev ODenB := TEnv → Om → RT (Bool × Om)
abbrev ODenA := TEnv → Om → RT (List T × Om)
def up {α : Type} (q : TEnv → RT α) : TEnv → Om → RT (α × Om) := fun τ ω => (q τ).bind fun t => .ok (t, ω)
section
variable {k : Nat} {c : Str}
theorem s2_up {β α : Type} {Rl : RlT β α} {a : Env → Sto → R β} {q : TEnv → RT α} (h : Snd Rl (some k) a q) : Snd2 Rl k c a (up q) := fun Φ m S ε τ ω at' => .of at'.r (h _ S ε τ at'.e at'.b)
variable {a b d : Den} {p q r : ODen} {as : DenA} {qs : ODenA} {ba bb : DenB} {γ δ : ODenB}
def oCons (p : ODen) (qs : ODenA) : ODenA := fun τ ω => (p τ ω).bind fun x => (qs τ x.2).bind fun y => .ok (x.1 :: y.1, y.2)
theorem s2_cons (h : Snd2 Rd k c a p) (hs : Snd2 Rds k c as qs) : Snd2 Rds k c (dCons a as) (oCons p qs) := fun Φ m S ε τ ω A =>
  (h Φ m S ε τ ω A).bind fun S1 d t ω1 p1 o1 r1 => (hs Φ m S1 ε τ ω1 (A.kp p1 o1)).bind fun S2 ds ts ω2 p2 o2 r2 => .here o2 (.cons (Rd.kp p2 r1) r2)
def oBin (o : TOp) (p q : ODen) : ODen := fun τ ω => (p τ ω).bind fun x => (q τ x.2).bind fun y => (o x.1 y.1).bind fun z => .ok (z, y.2)
theorem s2_bin {o : Op} {qo : TOp} (ho : OpT o qo) (ha : Snd2 Rd k c a p) (hb : Snd2 Rd k c b q) : Snd2 Rd k c (dBin o a b) (oBin qo p q) := fun Φ m S ε τ ω A =>
  (ha Φ m S ε τ ω A).bind fun S1 d t ω1 p1 o1 r1 => (hb Φ m S1 ε τ ω1 (A.kp p1 o1)).bind fun S2 e u ω2 p2 o2 r2 => .of o2 (ho _ S2 d e t u (Rd.kp p2 r1) r2 ((A.b.kp p1).kp p2))
def oTest (p : ODen) : ODenB := fun τ ω => (p τ ω).bind fun x => match x.1 with
  | .bl b => .ok (b, x.2)
  | _ => .bad
theorem s2_test (ha : Snd2 Rd k c a p) : Snd2 rqB k c (dTest a) (oTest p) := fun Φ m S ε τ ω A => (ha Φ m S ε τ ω A).bind fun S1 d t ω1 p1 o1 r1 => by
  cases r1 <;> first | exact OkR2.here o1 rfl | trivial
def obOr (a b : ODenB) : ODenB := fun τ ω => (a τ ω).bind fun x => if x.1 = true then .ok (true, x.2) else b τ x.2
theorem s2_or (ha : Snd2 rqB k c ba γ) (hb : Snd2 rqB k c bb δ) : Snd2 rqB k c (bOr ba bb) (obOr γ δ) := fun Φ m S ε τ ω A => (ha Φ m S ε τ ω A).bind fun S1 d t ω1 p1 o1 r1 => by
  cases r1
  simp only
  split
  · exact .here o1 rfl
  · exact hb Φ m S1 ε τ ω1 (A.kp p1 o1)
def oAndV (a b : ODen) : ODen := fun τ ω => (a τ ω).bind fun x => match x.1 with
  | .bl true => b τ x.2
  | .bl false => .ok (.bl false, x.2)
  | _ => .bad
theorem s2_andV (ha : Snd2 Rd k c a p) (hb : Snd2 Rd k c b q) : Snd2 Rd k c (dAndV a b) (oAndV p q) := fun Φ m S ε τ ω A => (ha Φ m S ε τ ω A).bind fun S1 d t ω1 p1 o1 r1 => by
  cases r1 with
  | bl b => cases b with
    | true => exact hb Φ m S1 ε τ ω1 (A.kp p1 o1)
    | false => exact .here o1 (.bl _)
  | _ => trivial
def oFn (f : TFn) (qs : ODenA) : ODen := fun τ ω => (qs τ ω).bind fun x => (f x.1).bind fun z => .ok (z, x.2)
theorem s2_fn {f : Fn} {g : TFn} (hf : FnT f g) (hs : Snd2 Rds k c as qs) : Snd2 Rd k c (dFn f as) (oFn g qs) := fun Φ m S ε τ ω A => (hs Φ m S ε τ ω A).bind fun S1 ds ts ω1 p1 o1 r1 => .of o1 (hf _ S1 ds ts r1 (A.b.kp p1))
def oFld (f : Str) : ODen := fun _ ω => match ω.lookup f with
  | some t => .ok (t, ω)
  | none => .bad
theorem insAt_of' {S : Sto} {m : Nat} {c : Str} {fs : List (Str × D)} (e : S[m]? = some (.ins c fs)) : insAt S (.ref m) = some (m, c, fs) := by simp only [insAt, e]
theorem s2_fld {f : Str} : Snd2 Rd k c (dFld f (dVar k)) (oFld f) := fun Φ m S ε τ ω A => by
  obtain ⟨fs, e, r⟩ := A.r
  unfold dFld oFld
  rw [x_Var A.o, R.bind_ok, insAt_of' e]
  simp only
  rcases r.look f with ⟨e1, e2⟩ | ⟨d, t, e1, e2, rd⟩
  · rw [e2]; trivial
  · rw [e1, e2]; exact .here ⟨fs, e, r⟩ rd
abbrev OFn := List T → Om → RT (T × Om)
def FnT2 (p : Nat) (c : Str) (f : Fn) (q : OFn) : Prop := ∀ Φ m S ds ts ω, Rds (plus Φ m) S ds ts → Bnd (plus Φ m) S → ¬ Φ m → ObR Φ m c S ω → OkR2 Rd Φ m c S (f (ds.take p ++ .ref m :: ds.drop p) S) (q ts ω)
def oMeth (nm : Str) (n : Nat) (f : OFn) (qs : ODenA) : ODen := fun τ ω => if ω.lookup nm = none then (qs τ ω).bind fun x => if x.1.length + 1 = n then f x.1 x.2 else .bad else .bad
theorem s2_meth {n : Nat} {nm : Str} {f : Fn} {g : OFn} (hf : FnT2 0 c f g) (hs : Snd2 Rds k c as qs) : Snd2 Rd k c (dMeth c nm n f (dVar k) as) (oMeth nm n g qs) := fun Φ m S ε τ ω A => by
  obtain ⟨fs, e, r⟩ := A.r
  unfold dMeth oMeth
  rw [x_Var A.o, R.bind_ok, insAt_of' e]
  simp only [true_and]
  rcases r.look nm with ⟨e1, e2⟩ | ⟨d, t, e1, e2, rd⟩
  · rw [e1, e2, if_pos rfl, if_pos rfl]
    refine (hs Φ m S ε τ ω A).bind fun S1 ds ts ω1 p1 o1 r1 => ?_
    rw [r1.len]
    simp only
    split
    · exact hf Φ m S1 ds ts ω1 r1 (A.b.kp p1) A.f o1
    · trivial
  · rw [e1, e2]
    simp only [reduceCtorEq, if_false]
    trivial
def olcI (g : DL.TG) (cc : TDenB) (e : ODen) (vs : List Nat) (τ : TEnv) : List T → List T → Om → RT (List T × Om)
  | [], acc, ω => .ok (acc, ω)
  | t :: r, acc, ω => match g t (twipe τ vs) with
    | none => .bad
    | some τ1 => (noXT (cc τ1)).bind fun b => if b = true then (noXT (e τ1 ω)).bind fun x => (if acc.length < big then olcI g cc e vs τ r (acc ++ [x.1]) x.2 else .bad) else olcI g cc e vs τ r acc ω
def oLc (it : TIt) (g : DL.TG) (cc : TDenB) (e : ODen) (vs : List Nat) : ODen := fun τ ω => (it τ).bind fun ts => (olcI g cc e vs τ ts [] ω).bind fun us => .ok (.lst us.1, us.2)
theorem OkR2.noX {β α : Type} {Rl : RlT β α} {Φ : Nat → Prop} {m : Nat} {c : Str} {S : Sto} {r : R β} {q : RT (α × Om)} (h : OkR2 Rl Φ m c S r q) : OkR2 Rl Φ m c S (DL.noX r) (noXT q) := by
  cases q with
  | ok t => obtain ⟨S', d, rfl, p, rl⟩ := h; exact ⟨S', d, rfl, p, rl⟩
  | exc c => trivial
  | bad => trivial
theorem wipe_at {vs : List Nat} {k : Nat} {ε : Env} {x : Option (Option D)} (h : k ∉ vs) (e : ε[k]? = x) : (wipeE ε vs)[k]? = x := by
  induction vs with
  | nil => exact e
  | cons v vs ih =>
    simp only [List.mem_cons, not_or] at h
    unfold wipeE
    rw [List.getElem?_set_ne (Ne.symm h.1)]
    exact ih h.2
theorem olc_sim {g : GDen} {h : DL.TG} {cc : TDenB} {e : Den} {x : ODen} {vs : List Nat} (hk : k ∉ vs) (hg : SndG (some k) g h) (hc : SndB (some k) ba cc) (he : Snd2 Rd k c e x) {Φ : Nat → Prop} {m : Nat} {ε : Env} {τ : TEnv} {src : Src} {ds : List D} :
    ∀ (rest acc : List T) (restD accD : List D) (i n : Nat) (S : Sto) (ω : Om), ds.drop i = restD → restD.length < n → (∀ S', Kp m S S' → src S' = some ds) → Rds (plus Φ m) S restD rest → Rds (plus Φ m) S accD acc → At Φ m k c S ε τ ω →
      OkR2 Rds Φ m c S (lcI src g ba e vs ε n i accD S) (olcI h cc x vs τ rest acc ω)
  | _, _, _, _, _, 0, _, _, _, hm, _, _, _, _ => by omega
  | [], acc, [], accD, i, n + 1, S, ω, hd, hm, hs, .nil, ra, A => by
    unfold lcI
    rw [hs S Kp.refl]
    have : ds[i]? = none := by
      rw [List.getElem?_eq_none_iff]
      exact List.drop_eq_nil_iff.mp hd
    simp only [this]
    exact .here A.r ra
  | t :: rest, acc, d :: restD, accD, i, n + 1, S, ω, hd, hm, hs, .cons r rs, ra, A => by
    obtain ⟨hdi, hd'⟩ := drop_step hd
    unfold lcI olcI
    rw [hs S Kp.refl]
    simp only [hdi]
    cases e1 : h t (twipe τ vs) with
    | none => trivial
    | some τ1 =>
      obtain ⟨ε1, g1, er1, gk⟩ := hg _ S _ _ d t (A.e.wipe vs) r τ1 e1
      simp only [g1]
      have o1 : ε1[k]? = some (some (.ref m)) := (gk k rfl).1.trans (wipe_at hk A.o)
      have h1 := (hc _ S ε1 τ1 er1 A.b).noX
      cases q1 : noXT (cc τ1) with
      | exc z => rw [q1] at h1; obtain ⟨S1, e2, p1⟩ := h1; rw [e2]; exact ⟨S1, rfl, Kp.pre p1⟩
      | bad => trivial
      | ok b =>
        rw [q1] at h1
        obtain ⟨S1, b', e2, p1, rfl⟩ := h1
        rw [e2]
        simp only [R.bind_ok, RT.bind_ok]
        have A1 : At Φ m k c S1 ε1 τ1 ω := ⟨er1.pre p1, o1, A.b.pre p1, A.f, A.r.pre p1⟩
        have A0 : At Φ m k c S1 ε τ ω := A.kp (Kp.pre p1) (A.r.pre p1)
        have kp1 : Kp m S S1 := Kp.pre p1
        have lift : ∀ {r : R (List D)} {q : RT (List T × Om)} {S2 : Sto}, Kp m S S2 → OkR2 Rds Φ m c S2 r q → OkR2 Rds Φ m c S r q := fun {r q S2} p h => by
          cases q with
          | ok t => obtain ⟨S', d, e, p', rl⟩ := h; exact ⟨S', d, e, p.trans p', rl⟩
          | exc x => obtain ⟨S', e, p'⟩ := h; exact ⟨S', e, p.trans p'⟩
          | bad => trivial
        refine lift kp1 ?_
        split
        · refine (he Φ m S1 ε1 τ1 ω A1).noX.bind fun S2 d2 t2 ω2 p2 o2 r2 => ?_
          rw [ra.len]
          simp only
          split
          · exact olc_sim hk hg hc he rest (acc ++ [t2]) restD (accD ++ [d2]) (i + 1) n S2 ω2 hd' (by simp at hm; omega) (fun S' k => hs S' ((kp1.trans p2).trans k)) (rs.kp (kp1.trans p2)) ((ra.kp (kp1.trans p2)).app (.cons r2 .nil)) (A0.kp p2 o2)
          · trivial
        · exact olc_sim hk hg hc he rest acc restD accD (i + 1) n S1 ω hd' (by simp at hm; omega) (fun S' k => hs S' (kp1.trans k)) (rs.kp kp1) (ra.kp kp1) A0
theorem s2_lc {it : IDen} {ι : TIt} {g : GDen} {h : DL.TG} {cc : TDenB} {e : Den} {x : ODen} {vs : List Nat} (hk : k ∉ vs) (hi : SndI (some k) it ι) (hg : SndG (some k) g h) (hc : SndB (some k) ba cc) (he : Snd2 Rd k c e x) : Snd2 Rd k c (dLc it g ba e vs) (oLc ι h cc x vs) := fun Φ m S ε τ ω A => by
  have h1 := hi _ S ε τ A.e A.b
  unfold dLc oLc
  cases q1 : ι τ with
  | exc z => rw [q1] at h1; obtain ⟨S1, e2, p1⟩ := h1; rw [e2]; exact ⟨S1, rfl, Kp.pre p1⟩
  | bad => trivial
  | ok ts =>
    rw [q1] at h1
    obtain ⟨S1, src, e2, p1, ds, r1, rs⟩ := h1
    rw [e2]
    simp only [R.bind_ok, RT.bind_ok, r1 S1 Keep.refl]
    have A1 : At Φ m k c S1 ε τ ω := A.kp (Kp.pre p1) (A.r.pre p1)
    have h2 := olc_sim hk hg hc he ts [] ds [] 0 (ds.length + 1) S1 ω rfl (Nat.lt_succ_self _) (fun S' q => r1 S' fun n o hn e => q.2 n o (fun z => hn (.inr z)) e) rs .nil A1
    have h3 : OkR2 Rd Φ m c S1 ((lcI src g ba e vs ε (ds.length + 1) 0 [] S1).bind lcEnd) ((olcI h cc x vs τ ts [] ω).bind fun us => .ok (.lst us.1, us.2)) := h2.bind fun S2 us ws ω2 p2 o2 r2 => by
      obtain ⟨S3, d3, e3, p3, r3⟩ := OkR.newL ((A1.b).kp p2) r2
      exact ⟨S3, d3, e3, Kp.pre p3, o2.pre p3, r3⟩
    cases q3 : (olcI h cc x vs τ ts [] ω).bind fun us => RT.ok (T.lst us.1, us.2) with
    | ok t => rw [q3] at h3; obtain ⟨t, ω'⟩ := t; obtain ⟨S', d, e, p', rl⟩ := h3; exact ⟨S', d, e, (Kp.pre p1).trans p', rl⟩
    | exc x => rw [q3] at h3; obtain ⟨S', e, p'⟩ := h3; exact ⟨S', e, (Kp.pre p1).trans p'⟩
    | bad => trivial
end
end DL
namespace DL
open PySem L2
abbrev OSDen := TEnv → Om → RT (TFl × Om)
def OkF2 (Φ : Nat → Prop) (m k : Nat) (c : Str) (S : Sto) (r : R Fl) : RT (TFl × Om) → Prop
  | .ok (.nx τ', ω) => ∃ S' ε', r = .ok (.nx ε') S' ∧ Kp m S S' ∧ At Φ m k c S' ε' τ' ω
  | .ok (.rt t, ω) => ∃ S' d, r = .ok (.rt d) S' ∧ Kp m S S' ∧ ObR Φ m c S' ω ∧ Rd (plus Φ m) S' d t
  | .ok (.ex x _, _) => ∃ S' ε', r = .ok (.ex x ε') S' ∧ Kp m S S'
  | .exc _ => True
  | .bad => True
theorem OkF2.up {Φ : Nat → Prop} {m k : Nat} {c : Str} {S S1 : Sto} {r : R Fl} {q : RT (TFl × Om)} (p : Kp m S S1) (h : OkF2 Φ m k c S1 r q) : OkF2 Φ m k c S r q := by
  cases q with
  | ok f =>
    obtain ⟨f, ω⟩ := f
    cases f with
    | nx τ => obtain ⟨S', ε', e, p', a⟩ := h; exact ⟨S', ε', e, p.trans p', a⟩
    | rt t => obtain ⟨S', ε', e, p', a⟩ := h; exact ⟨S', ε', e, p.trans p', a⟩
    | ex x τ => obtain ⟨S', ε', e, p'⟩ := h; exact ⟨S', ε', e, p.trans p'⟩
  | exc => trivial
  | bad => trivial
def SndS2 (k : Nat) (c : Str) (a : SDen) (q : OSDen) : Prop := ∀ Φ m S ε τ ω, At Φ m k c S ε τ ω → OkF2 Φ m k c S (a ε S) (q τ ω)
def osE {α : Type} (q : RT (α × Om)) (τ : TEnv) (ω : Om) (κ : α → Om → RT (TFl × Om)) : RT (TFl × Om) := match q with
  | .ok (t, ω') => κ t ω'
  | .exc x => .ok (.ex x τ, ω)
  | .bad => .bad
section
variable {k m : Nat} {c : Str} {Φ : Nat → Prop} {S : Sto} {ε : Env} {τ : TEnv} {ω : Om}
theorem OkF2.sE {β α : Type} {Rl : RlT β α} {r : R β} {q : RT (α × Om)} {kk : β → Sto → R Fl} {κ : α → Om → RT (TFl × Om)} (A : At Φ m k c S ε τ ω) (h : OkR2 Rl Φ m c S r q)
    (hk : ∀ S' d t ω', Kp m S S' → At Φ m k c S' ε τ ω' → Rl (plus Φ m) S' d t → OkF2 Φ m k c S' (kk d S') (κ t ω')) : OkF2 Φ m k c S (DL.sE r ε kk) (osE q τ ω κ) := by
  cases q with
  | ok t =>
    obtain ⟨t, ω'⟩ := t
    obtain ⟨S', d, rfl, p, ob, rl⟩ := h
    exact (hk S' d t ω' p (A.kp p ob) rl).up p
  | exc x =>
    obtain ⟨S', rfl, p⟩ := h
    exact ⟨S', ε, rfl, p⟩
  | bad => trivial
variable {a b : SDen} {q q' : OSDen} {x y : Den} {p p' : ODen} {ba : DenB} {γ : ODenB}
def osNil : OSDen := fun τ ω => .ok (.nx τ, ω)
theorem os_nil : SndS2 k c sNil osNil := fun Φ m S ε τ ω A => ⟨S, ε, rfl, Kp.refl, A⟩
def osN (q : RT (TFl × Om)) (f : TEnv → Om → RT (TFl × Om)) : RT (TFl × Om) := match q with
  | .ok (.nx τ, ω) => f τ ω
  | q => q
def osSeq (q q' : OSDen) : OSDen := fun τ ω => osN (q τ ω) q'
theorem os_seq (ha : SndS2 k c a q) (hb : SndS2 k c b q') : SndS2 k c (sSeq a b) (osSeq q q') := fun Φ m S ε τ ω A => by
  have h := ha Φ m S ε τ ω A
  unfold sSeq osSeq
  cases e : q τ ω with
  | ok f =>
    rw [e] at h
    obtain ⟨f, ω1⟩ := f
    cases f with
    | nx τ1 => obtain ⟨S1, ε1, e1, p1, A1⟩ := h; rw [e1]; exact (hb Φ m S1 ε1 τ1 ω1 A1).up p1
    | rt t => obtain ⟨S1, d, e1, z⟩ := h; rw [e1]; exact ⟨S1, d, rfl, z⟩
    | ex x τ1 => obtain ⟨S1, d, e1, z⟩ := h; rw [e1]; exact ⟨S1, d, rfl, z⟩
  | exc => trivial
  | bad => trivial
def osRet (p : ODen) : OSDen := fun τ ω => osE (p τ ω) τ ω fun t ω' => .ok (.rt t, ω')
theorem os_ret (hx : Snd2 Rd k c x p) : SndS2 k c (sRet x) (osRet p) := fun Φ m S ε τ ω A => OkF2.sE A (hx Φ m S ε τ ω A) fun S' d t ω' p' A' r => ⟨S', d, rfl, Kp.refl, A'.r, r⟩
def osAsg (p : ODen) (g : DL.TG) : OSDen := fun τ ω => osE (p τ ω) τ ω fun t ω' => match g t τ with
  | some τ' => .ok (.nx τ', ω')
  | none => .bad
theorem os_asg {g : GDen} {h : DL.TG} (hx : Snd2 Rd k c x p) (hg : SndG (some k) g h) : SndS2 k c (sAsg x g) (osAsg p h) := fun Φ m S ε τ ω A => OkF2.sE A (hx Φ m S ε τ ω A) fun S' d t ω' p' A' r => by
  cases e : h t τ with
  | none => trivial
  | some τ' =>
    obtain ⟨ε', g1, g2, g3⟩ := hg _ S' ε τ d t A'.e r τ' e
    simp only [g1]
    exact ⟨S', ε', rfl, Kp.refl, ⟨g2, (g3 k rfl).1.trans A'.o, A'.b, A'.f, A'.r⟩⟩
def osIf (cc : ODenB) (a b : OSDen) : OSDen := fun τ ω => osE (cc τ ω) τ ω fun t ω' => if t = true then a τ ω' else b τ ω'
theorem os_if (hc : Snd2 rqB k c ba γ) (ha : SndS2 k c a q) (hb : SndS2 k c b q') : SndS2 k c (sIf ba a b) (osIf γ q q') := fun Φ m S ε τ ω A => OkF2.sE A (hc Φ m S ε τ ω A) fun S' d t ω' p' A' r => by
  cases r
  split
  · exact ha Φ m S' ε τ ω' A'
  · exact hb Φ m S' ε τ ω' A'
def osSet (f : Str) (p : ODen) : OSDen := fun τ ω => osE (p τ ω) τ ω fun t ω' => if ω'.length < 1000 then .ok (.nx τ, putFT f t ω') else .bad
theorem ObR.set {Φ : Nat → Prop} {m : Nat} {c : Str} {S : Sto} {ω : Om} (h : ObR Φ m c S ω) {fs : List (Str × D)} (e : S[m]? = some (.ins c fs)) {fs' : List (Str × D)} {ω' : Om} (r : Rdf (plus Φ m) S fs' ω') : ObR Φ m c (S.set m (.ins c fs')) ω' ∧ Kp m S (S.set m (.ins c fs')) := by
  have hm : m < S.length := (List.getElem?_eq_some_iff.mp e).1
  have kp : Kp m S (S.set m (.ins c fs')) := ⟨by rw [List.length_set]; exact Nat.le_refl _, fun n o hn e => by rw [List.getElem?_set_ne (Ne.symm hn)]; exact e⟩
  exact ⟨⟨fs', by rw [List.getElem?_set_self hm], r.keep (fun _ _ q => q) fun n o hn e => kp.2 n o (fun z => hn (.inr z)) e⟩, kp⟩
theorem os_set {f : Str} (hx : Snd2 Rd k c x p) : SndS2 k c (sFldD f x (dVar k)) (osSet f p) := fun Φ m S ε τ ω A => OkF2.sE A (hx Φ m S ε τ ω A) fun S' d t ω' p' A' r => by
  have ob := A'.r
  obtain ⟨fs, e, rf⟩ := A'.r
  rw [x_Var A'.o]
  simp only [x_sE, insAt_of' e, rf.len]
  split
  · obtain ⟨ob', kp⟩ := ob.set e (rf.put f r)
    exact ⟨_, ε, rfl, kp, A'.kp kp ob'⟩
  · trivial
def orun (pl np nN : Nat) (q : OSDen) : OFn := fun ts ω => if ts.length + 1 = np ∧ pl ≤ ts.length then (match q (((ts.take pl).map some) ++ none :: ((ts.drop pl).map some) ++ List.replicate (nN - np) none) ω with
  | .ok (.nx _, ω') => .ok (.non, ω')
  | .ok (.rt t, ω') => .ok (t, ω')
  | .ok (.ex x _, _) => .exc x
  | _ => .bad) else .bad
theorem env_mid {ds : List D} {ts : List T} (r : Rds (plus Φ m) S ds ts) (pl n : Nat) (hp : pl ≤ ts.length) : EnvR (plus Φ m) (some pl) S ((ds.take pl ++ D.ref m :: ds.drop pl).map some ++ List.replicate n none) ((ts.take pl).map some ++ none :: (ts.drop pl).map some ++ List.replicate n none) := by
  have hl := r.len
  refine ⟨by simp [hl], fun i t hi e => ?_⟩
  have hi' : i ≠ pl := fun z => hi (by rw [z])
  rcases Nat.lt_or_ge i pl with q | q
  · have h1 : i < (List.take pl ts).length := by rw [List.length_take]; omega
    rw [List.append_assoc, List.getElem?_append_left (by simpa using h1), List.getElem?_map] at e
    obtain ⟨u, e1, e2⟩ := Option.map_eq_some_iff.mp e
    cases e2
    obtain ⟨d, e3, e4⟩ := (r.take pl).get e1
    refine ⟨d, ?_, e4⟩
    rw [List.getElem?_append_left (by simp [List.length_take]; omega), List.getElem?_map, List.getElem?_append_left (by rw [List.length_take]; omega), e3]
    rfl
  · obtain ⟨j, rfl⟩ : ∃ j, i = pl + (j + 1) := ⟨i - pl - 1, by omega⟩
    have h1 : ((ts.take pl).map some).length = pl := by rw [List.length_map, List.length_take]; omega
    rw [List.append_assoc, List.getElem?_append_right (by rw [h1]; omega), h1, Nat.add_sub_cancel_left, List.cons_append, List.getElem?_cons_succ] at e
    by_cases hj : j < (ts.drop pl).length
    · rw [List.getElem?_append_left (by simpa using hj), List.getElem?_map] at e
      obtain ⟨u, e1, e2⟩ := Option.map_eq_some_iff.mp e
      cases e2
      obtain ⟨d, e3, e4⟩ := (r.drop pl).get e1
      refine ⟨d, ?_, e4⟩
      have hj2 : j < (ds.drop pl).length := (List.getElem?_eq_some_iff.mp e3).1
      have h2 : (ds.take pl).length = pl := by rw [List.length_take]; omega
      rw [List.getElem?_append_left (by simp [h2]; simp at hj2; omega), List.getElem?_map, List.getElem?_append_right (by rw [h2]; omega), h2, Nat.add_sub_cancel_left, List.getElem?_cons_succ, e3]
      rfl
    · rw [List.getElem?_append_right (by simpa using Nat.le_of_not_lt hj), List.getElem?_replicate] at e
      split at e <;> cases e
theorem fn_O {pl np nN : Nat} (h : SndS2 pl c a q) : FnT2 pl c (runFn np nN a) (orun pl np nN q) := fun Φ m S ds ts ω r hB hf ob => by
  unfold runFn orun
  have hl : (ds.take pl ++ D.ref m :: ds.drop pl).length = ts.length + 1 := by rw [← r.len]; simp; omega
  rw [hl]
  by_cases hp : ts.length + 1 = np ∧ pl ≤ ts.length
  · rw [if_pos hp, if_pos hp.1]
    have ho : ((ds.take pl ++ D.ref m :: ds.drop pl).map some ++ List.replicate (nN - np) none)[pl]? = some (some (.ref m)) := by
      have h2 : (ds.take pl).length = pl := by rw [List.length_take, r.len]; omega
      rw [List.getElem?_append_left (by simp; rw [r.len]; omega), List.getElem?_map, List.getElem?_append_right (by rw [h2]; exact Nat.le_refl _), h2, Nat.sub_self]
      rfl
    have h1 := h Φ m S _ _ ω ⟨env_mid r pl (nN - np) hp.2, ho, hB, hf, ob⟩
    cases e : q ((ts.take pl).map some ++ none :: (ts.drop pl).map some ++ List.replicate (nN - np) none) ω with
    | ok f =>
      rw [e] at h1
      obtain ⟨f, ω'⟩ := f
      cases f with
      | nx τ' => obtain ⟨S', ε', e1, p, A⟩ := h1; rw [e1]; exact ⟨S', _, rfl, p, A.r, .non⟩
      | rt t => obtain ⟨S', d, e1, p, ob', rd⟩ := h1; rw [e1]; exact ⟨S', d, rfl, p, ob', rd⟩
      | ex x τ' => obtain ⟨S', ε', e1, p⟩ := h1; rw [e1]; exact ⟨S', rfl, p⟩
    | exc => trivial
    | bad => trivial
  · rw [if_neg hp]; trivial
end
def FnAt2 (pl : Nat) (c : Str) (f : Fn) (ts : List T) (ω : Om) (r : RT (T × Om)) : Prop := ∀ Φ m S ds, Rds (plus Φ m) S ds ts → Bnd (plus Φ m) S → ¬ Φ m → ObR Φ m c S ω → OkR2 Rd Φ m c S (f (ds.take pl ++ .ref m :: ds.drop pl) S) r
open Classical in
noncomputable def tv2 (pl : Nat) (c : Str) (f : Fn) : OFn := fun ts ω => if h : ∃ t, FnAt2 pl c f ts ω (.ok t) then .ok h.choose else if h : ∃ x, FnAt2 pl c f ts ω (.exc x) then .exc h.choose else .bad
theorem tv2_T (pl : Nat) (c : Str) (f : Fn) : FnT2 pl c f (tv2 pl c f) := fun Φ m S ds ts ω r hB hf ob => by
  unfold tv2
  split
  · rename_i h; exact h.choose_spec Φ m S ds r hB hf ob
  · split
    · rename_i h; exact h.choose_spec Φ m S ds r hB hf ob
    · trivial
theorem Rdf.one {Φ : Nat → Prop} {S : Sto} : ∀ {ds : List (Str × D)} {t u : Om}, Rdf Φ S ds t → Rdf Φ S ds u → t = u
  | _, _, _, .nil, .nil => rfl
  | _, _, _, .cons h t, .cons h' t' => by rw [Rd.one h h', Rdf.one t t']
theorem ObR.one {Φ : Nat → Prop} {m : Nat} {c : Str} {S : Sto} {ω ω' : Om} (h : ObR Φ m c S ω) (h' : ObR Φ m c S ω') : ω = ω' := by
  obtain ⟨fs, e, r⟩ := h
  obtain ⟨fs', e', r'⟩ := h'
  rw [e] at e'
  cases e'
  exact r.one r'
theorem lay_Tf : ∀ (t : Om) (S : Sto), ∃ S' d, S <+: S' ∧ Rdf (fun _ => False) S' d t
  | [], S => ⟨S, _, List.prefix_rfl, .nil⟩
  | (k, t) :: ts, S => let ⟨S1, d, p1, r1⟩ := lay_T t S; let ⟨S2, ds, p2, r2⟩ := lay_Tf ts S1; ⟨S2, _, p1.trans p2, .cons (r1.pre p2) r2⟩
theorem FnAt2.one {pl : Nat} {c : Str} {f : Fn} {ts : List T} {ω : Om} {r r' : RT (T × Om)} (h : FnAt2 pl c f ts ω r) (h' : FnAt2 pl c f ts ω r') : r = .bad ∨ r' = .bad ∨ r = r' := by
  obtain ⟨S1, ds, _, rs⟩ := lay_Ts ts []
  obtain ⟨S2, fs, p2, rf⟩ := lay_Tf ω S1
  have pre : S2 <+: S2 ++ [O.ins c fs] := List.prefix_append _ _
  have kk : ∀ n, n < S2.length → plus (fun _ => False) S2.length n → False := fun n hn q => by
    rcases q with q | q
    · exact q
    · omega
  have rs' : Rds (plus (fun _ => False) S2.length) (S2 ++ [.ins c fs]) ds ts := ((rs.pre p2).keep kk fun _ _ _ e => e).pre pre
  have ob : ObR (fun _ => False) S2.length c (S2 ++ [.ins c fs]) ω := ⟨fs, by simp, (rf.keep kk fun _ _ _ e => e).keep (fun _ _ q => q) fun n o _ e => by
    rw [List.getElem?_append_left (List.getElem?_eq_some_iff.mp e).1]; exact e⟩
  have bn : Bnd (plus (fun _ => False) S2.length) (S2 ++ [.ins c fs]) := fun n q => by
    rcases q with q | rfl
    · exact q.elim
    · simp
  have a := h _ S2.length _ ds rs' bn id ob
  have b := h' _ S2.length _ ds rs' bn id ob
  cases r with
  | ok t =>
    obtain ⟨t, ω1⟩ := t
    obtain ⟨S1, d1, e1, _, o1, r1⟩ := a
    cases r' with
    | ok u =>
      obtain ⟨u, ω2⟩ := u
      obtain ⟨S2, d2, e2, _, o2, r2⟩ := b
      rw [e1] at e2
      cases e2
      rw [r1.one r2, o1.one o2]
      exact .inr (.inr rfl)
    | exc x => obtain ⟨S2, e2, _⟩ := b; rw [e1] at e2; cases e2
    | bad => exact .inr (.inl rfl)
  | exc x =>
    obtain ⟨S1, e1, _⟩ := a
    cases r' with
    | ok u => obtain ⟨u, ω2⟩ := u; obtain ⟨S2, d2, e2, _⟩ := b; rw [e1] at e2; cases e2
    | exc x => obtain ⟨S2, e2, _⟩ := b; rw [e1] at e2; cases e2; exact .inr (.inr rfl)
    | bad => exact .inr (.inl rfl)
  | bad => exact .inl rfl
theorem tv2_eq {pl : Nat} {c : Str} {f : Fn} {ts : List T} {ω : Om} {r : RT (T × Om)} (h : FnAt2 pl c f ts ω r) (hr : r ≠ .bad) : tv2 pl c f ts ω = r := by
  rcases FnAt2.one h (fun Φ m S ds r hB hf ob => tv2_T pl c f Φ m S ds ts ω r hB hf ob) with e | e | e
  · exact absurd e hr
  · exfalso
    unfold tv2 at e
    cases r with
    | ok t => rw [dif_pos ⟨t, h⟩] at e; cases e
    | exc x =>
      split at e
      · cases e
      · rw [dif_pos ⟨x, h⟩] at e; cases e
    | bad => exact hr rfl
  · exact e.symm
theorem tv2_of {pl : Nat} {c : Str} {f : Fn} {q : OFn} {ts : List T} {ω : Om} {r : RT (T × Om)} (h : FnT2 pl c f q) (e : q ts ω = r) (hr : r ≠ .bad) : tv2 pl c f ts ω = r := tv2_eq (fun Φ m S ds r' hB hf ob => e ▸ h Φ m S ds ts ω r' hB hf ob) hr
def tMakeMeth (ni : Nat) (fi : OFn) (nm : Str) (n : Nat) (f : OFn) (as bs : TDenA) : TDen := fun τ => (as τ).bind fun ts => if ts.length + 1 = ni then (fi ts []).bind fun x => (match x.1 with
  | .non => if x.2.lookup nm = none then (bs τ).bind fun us => if us.length + 1 = n then (f us x.2).bind fun y => .ok y.1 else .bad else .bad
  | _ => .bad) else .bad
theorem obj_new {Φ : Nat → Prop} {S : Sto} {c : Str} (hB : Bnd Φ S) : ObR Φ S.length c (S ++ [.ins c []]) [] ∧ ¬ Φ S.length ∧ Bnd (plus Φ S.length) (S ++ [.ins c []]) :=
  ⟨⟨[], by simp, .nil⟩, fun q => Nat.lt_irrefl _ (hB _ q), fun n q => by
    rcases q with q | rfl
    · have := hB n q; simp; omega
    · simp⟩
theorem pre_kp {S S1 : Sto} {o : O} (h : Kp S.length (S ++ [o]) S1) : S <+: S1 := pre_ofT (by have := h.1; simp at this; omega) fun k o hk e => h.2 k o (by omega) (by rw [List.getElem?_append_left hk]; exact e)
theorem snd_makeMeth {j : Option Nat} {c : Str} {ni n : Nat} {nm : Str} {Fi F : Fn} {fi f : OFn} {as bs : DenA} {qa qb : TDenA} (hi : FnT2 0 c Fi fi) (hf : FnT2 0 c F f) (ha : SndA j as qa) (hb : SndA j bs qb) :
    SndE j (dMeth c nm n F (dMake c ni Fi as) bs) (tMakeMeth ni fi nm n f qa qb) := fun Φ S ε τ er hB => by
  unfold dMeth dMake tMakeMeth
  have h1 := ha Φ S ε τ er hB
  cases qe : qa τ with
  | exc x => rw [qe] at h1; obtain ⟨S1, e1, p1⟩ := h1; rw [e1]; exact ⟨S1, rfl, p1⟩
  | bad => trivial
  | ok ts =>
    rw [qe] at h1
    obtain ⟨S1, ds, e1, p1, rs⟩ := h1
    rw [e1]
    simp only [R.bind_ok, RT.bind_ok, rs.len]
    by_cases hn : ts.length + 1 = ni
    · rw [if_pos hn, if_pos hn]
      have hB1 := hB.pre p1
      obtain ⟨ob, nf, bn⟩ := obj_new (c := c) hB1
      have kk : ∀ n, n < S1.length → plus Φ S1.length n → Φ n := fun n hn q => q.elim id fun q => by omega
      have rs' : Rds (plus Φ S1.length) (S1 ++ [.ins c []]) ds ts := (rs.keep kk fun _ _ _ e => e).pre (List.prefix_append _ _)
      have h2 := hi Φ S1.length _ ds ts [] rs' bn nf ob
      simp only [List.take_zero, List.nil_append, List.drop_zero] at h2
      cases q2 : fi ts [] with
      | exc x => rw [q2] at h2; obtain ⟨S2, e2, p2⟩ := h2; rw [e2]; exact ⟨S2, rfl, p1.trans (pre_kp p2)⟩
      | bad => trivial
      | ok y =>
        obtain ⟨y, ω⟩ := y
        rw [q2] at h2
        obtain ⟨S2, d2, e2, p2, ob2, r2⟩ := h2
        rw [e2]
        cases r2 with
        | non =>
          simp only [R.bind_ok, RT.bind_ok]
          obtain ⟨fs, e3, rf⟩ := ob2
          rw [insAt_of' e3]
          simp only [true_and]
          rcases rf.look nm with ⟨l1, l2⟩ | ⟨d, t, l1, l2, rd⟩
          · rw [l1, l2, if_pos rfl, if_pos rfl]
            have pre2 := pre_kp p2
            have er2 : EnvR (plus Φ S1.length) j S2 ε τ := ((er.pre p1).keep kk fun _ _ _ e => e).pre pre2
            have bn2 : Bnd (plus Φ S1.length) S2 := fun n q => Nat.lt_of_lt_of_le (bn n q) p2.1
            have h3 := hb (plus Φ S1.length) S2 ε τ er2 bn2
            cases q3 : qb τ with
            | exc x => rw [q3] at h3; obtain ⟨S3, e4, p3⟩ := h3; rw [e4]; exact ⟨S3, rfl, p1.trans (pre2.trans p3)⟩
            | bad => trivial
            | ok us =>
              rw [q3] at h3
              obtain ⟨S3, es, e4, p3, ru⟩ := h3
              rw [e4]
              simp only [R.bind_ok, RT.bind_ok, ru.len]
              by_cases hn2 : us.length + 1 = n
              · rw [if_pos hn2, if_pos hn2]
                have h4 := hf Φ S1.length S3 es us ω ru (bn2.pre p3) nf ((show ObR Φ S1.length c S2 ω from ⟨fs, e3, rf⟩).pre p3)
                simp only [List.take_zero, List.nil_append, List.drop_zero] at h4
                have kp3 : Kp S1.length (S1 ++ [O.ins c []]) S3 := p2.trans (Kp.pre p3)
                cases q4 : f us ω with
                | exc x => rw [q4] at h4; obtain ⟨S4, e5, p4⟩ := h4; rw [e5]; exact ⟨S4, rfl, p1.trans (pre_kp (kp3.trans p4))⟩
                | bad => trivial
                | ok z =>
                  obtain ⟨z, ω'⟩ := z
                  rw [q4] at h4
                  obtain ⟨S4, d4, e5, p4, _, r4⟩ := h4
                  rw [e5]
                  exact ⟨S4, d4, rfl, p1.trans (pre_kp (kp3.trans p4)), r4.keep (fun _ _ q => .inl q) fun _ _ _ e => e⟩
              · rw [if_neg hn2, if_neg hn2]; trivial
          · rw [l1, l2]
            simp only [reduceCtorEq, if_false]
            trivial
        | _ => trivial
    · rw [if_neg hn, if_neg hn]; trivial
end DL
namespace DL
open PySem
open KS (rise tLt sLt)
section
variable {K : Type} [DecidableEq K]
def unX (k : List Str) : T := .tup (k.map T.str)
end
section
end
end DL
namespace DL
open PySem L2
open KS (tLt sLt)
section
end
section
end
end DL
namespace DL
open PySem L2
section
end
end DL
namespace DL
open PySem L2
section
variable {i : Nat} {x : Den} {p : TDen} {g : GDen} {h : DL.TG} {c : DenB} {γ : TDenB} {a b : SDen} {q q' : TSDen} {j' : Option Nat}
theorem OwnR.look {B : Nat} {Φ : Nat → Prop} {n : Nat} {S : Sto} {ε : Env} {τ : TEnv} (ow : OwnR B Φ (some i) n S ε τ) (hb : ∀ k, Φ k → k < B) : EnvR Φ none S ε τ := by
  obtain ⟨h1, h2, ⟨ds, ts, a1, a2, a3, a4⟩, h4⟩ := ow
  refine ⟨h4.len, fun k t _ e => ?_⟩
  by_cases q : i = k
  · subst q
    rw [a4] at e
    injection e with e
    injection e with e
    subst e
    exact ⟨.ref n, a1, .lst (fun z => by have := hb n z; omega) a2 (a3.keep (fun _ _ z => .inl z) fun _ _ _ e => e)⟩
  · obtain ⟨d, h5, h6⟩ := h4.at_ k t (by simpa using q) e
    exact ⟨d, h5, h6.keep (fun _ _ z => .inl z) fun _ _ _ e => e⟩
end
end DL
namespace DL
open PySem L2
section
end
end DL
namespace DL
open PySem L2
abbrev nowhere : Nat → Prop := fun _ => False
theorem EnvR.out {Φ : Nat → Prop} {S : Sto} {ε : Env} {τ : TEnv} {o : O} (h : EnvR Φ none S ε τ) : EnvR (plus Φ S.length) none (S ++ [o]) ε τ :=
  h.keep (fun n hn q => q.elim id fun q => by omega) fun n o' _ e => by
    rw [List.getElem?_append_left (List.getElem?_eq_some_iff.mp e).1]
    exact e
end DL
namespace DL
open PySem L2
end DL
namespace DL
open PySem L2
end DL
namespace DL
open PySem L2
section
end
end DL
namespace DL
open PySem L2
section
end
end DL
namespace DL
open PySem L2
end DL
namespace DL
open PySem L2
end DL
namespace DL
open PySem L2
def qStrX : TFn := one1 fun d => match d with
  | .int i => if i.natAbs.log2 < 1920 then .ok (.str (toString i)) else .bad
  | .str x => .ok (.str x)
  | _ => .bad
theorem sf_strX : FnT fStrX qStrX := fn_one fun Φ S d t r hB => by
  cases r <;> try trivial
  · simp only [fStrX]
    split
    · exact .here (.str _)
    · trivial
  · exact .here (.str _)
def strsOfT : List T → Option (List Str)
  | [] => some []
  | .str x :: ts => (strsOfT ts).map (x :: ·)
  | _ => none
theorem strsOfT_map : ∀ ys : List Str, strsOfT (ys.map T.str) = some ys
  | [] => rfl
  | y :: ys => by
    show (strsOfT (ys.map T.str)).map (y :: ·) = _
    rw [strsOfT_map ys]
    rfl
theorem strs_T {Φ : Nat → Prop} {S : Sto} : ∀ {ds : List D} {ts : List T}, Rds Φ S ds ts → strsOf ds = strsOfT ts
  | _, _, .nil => rfl
  | _, _, .cons h t => by
    cases h with
    | str x => simp only [strsOf, strsOfT, strs_T t]
    | _ => rfl
def tJoin (p q : TDen) : TDen := fun τ => (p τ).bind fun t => match t with
  | .str z => (q τ).bind fun u => (match (litsT u).bind strsOfT with
    | some ys => if (ys.map (·.length)).sum + ys.length * z.length ≤ big then .ok (.str (Txt.join z ys)) else .bad
    | none => .bad)
  | _ => .bad
section
variable {j : Option Nat} {a b : Den} {p q : TDen}
theorem snd_join (ha : SndE j a p) (hb : SndE j b q) : SndE j (dJoin a b) (tJoin p q) := fun Φ S ε τ er hB => (ha Φ S ε τ er hB).bind fun S1 d t p1 r1 => by
  cases r1 <;> try trivial
  rename_i z
  refine (hb Φ S1 ε τ (er.pre p1) (hB.pre p1)).bind fun S2 e u p2 r2 => ?_
  rcases lits_T r2 with ⟨e1, e2⟩ | ⟨ds, ts, e1, e2, rs⟩
  · rw [e1, e2]; trivial
  · rw [e1, e2]
    show OkR Rd Φ S2 (match strsOf ds with | some ys => _ | none => _) (match strsOfT ts with | some ys => _ | none => _)
    rw [strs_T rs]
    cases strsOfT ts with
    | none => trivial
    | some ys =>
      dsimp only
      by_cases h : (ys.map (·.length)).sum + ys.length * z.length ≤ big
      · rw [if_pos h, if_pos h]
        exact .here (.str _)
      · rw [if_neg h, if_neg h]
        trivial
end
end DL
namespace DL
open PySem L2
def oPl : CF → Nat
  | _ => 0
def oCl : CF → Str
  | .m_Reader_init => "Reader"
  | .m_Reader_is_deed => "Reader"
  | .m_Reader_is_call => "Reader"
  | .m_Words_init => "Words"
  | .m_Words_next_word => "Words"
  | .m_Words_thing => "Words"
  | .m_Words_row => "Words"
  | _ => ""
noncomputable def ov (f : CF → Fn) : CF → OFn := fun g => tv2 (oPl g) (oCl g) (f g)
noncomputable def ct_f_is_number (c : CF → TFn) (o o2 : CF → OFn) : TSDen :=
    (tsRet (tAndV (tIsi "int" (tVar 0)) (tAndV (tNotV (tIsi "bool" (tVar 0))) (tChain qLe qLt (tC (.int 0)) (tVar 0) (tC (.int 1009))))))
theorem cst_f_is_number (c c2 : CF → Fn) : SndS none none (b_f_is_number c c2) (ct_f_is_number (fun g => tv (c g)) (ov c) (ov c2)) := by
  unfold b_f_is_number ct_f_is_number
  exact (ss_ret (snd_andV (snd_isi snd_var) (snd_andV (snd_notV (snd_isi snd_var)) (snd_chain sq_int sq_int snd_int snd_var snd_int))))
theorem cq_f_is_number {n : Nat} {ts : List T} {r : RT T} (e : trun 1 1 (ct_f_is_number (fun g => tv (csem (n + 1) g)) (ov (csem (n + 1))) (ov (csem n))) ts = r) (hr : r ≠ .bad) : tv (csem (n + 2) .f_is_number) ts = r := tv_of (by rw [cs_f_is_number]; exact fn_T (cst_f_is_number _ _)) e hr
noncomputable def ct_f_is_word (c : CF → TFn) (o o2 : CF → OFn) : TSDen :=
    (tsSeq (tsIf (tbOr (tbNot (tTest (tIsi "str" (tVar 0)))) (tbOr (tbNot (tTest (tChain qLe qLe (tC (.int 1)) (tFn qLen (tCons (tVar 0) tNil)) (tC (.int 4))))) (tTest (tBin qNotIn (tBin qGet (tVar 0) (tC (.int 0))) (tVar 1))))) (tsRet (tC (.bl false))) tsNil)
    (tsRet (tFn qAll (tCons (tLc (tiAny (tSl (tVar 0) (tPart (tC (.int 1))) tNoPart)) (hN 2) tYes (tBin qIn (tVar 2) (tC (.str "0123456789"))) [2]) tNil))))
theorem cst_f_is_word (c c2 : CF → Fn) : SndS none none (b_f_is_word c c2) (ct_f_is_word (fun g => tv (c g)) (ov c) (ov c2)) := by
  unfold b_f_is_word ct_f_is_word
  exact (ss_seq (ss_if (snd_or (snd_not (snd_test (snd_isi snd_var))) (snd_or (snd_not (snd_test (snd_chain sq_int sq_int snd_int (snd_fn sf_len (snd_cons snd_var snd_nil)) snd_int))) (snd_test (snd_bin sq_notIn (snd_bin sq_get snd_var snd_int) snd_var)))) (ss_ret snd_bl) ss_nil)
    (ss_ret (snd_fn sf_all (snd_cons (snd_lc (si_any (snd_sl snd_var (snd_part snd_int) snd_noPart)) (sg_name 2) snd_yes (snd_bin sq_in snd_var snd_str)) snd_nil))))
theorem cq_f_is_word {n : Nat} {ts : List T} {r : RT T} (e : trun 2 3 (ct_f_is_word (fun g => tv (csem (n + 1) g)) (ov (csem (n + 1))) (ov (csem n))) ts = r) (hr : r ≠ .bad) : tv (csem (n + 2) .f_is_word) ts = r := tv_of (by rw [cs_f_is_word]; exact fn_T (cst_f_is_word _ _)) e hr
noncomputable def ct_f_is_shelf (c : CF → TFn) (o o2 : CF → OFn) : TSDen :=
    (tsSeq (tsIf (tTest (tCall 2 (c .f_is_word) (tCons (tVar 0) (tCons (tC (.str "pq")) tNil)))) (tsRet (tBin qIn (tVar 0) (tVar 1))) tsNil)
    (tsRet (tAndV (tIsi "str" (tVar 0)) (tAndV (tBin qEq (tFn qLen (tCons (tVar 0) tNil)) (tC (.int 1))) (tBin qIn (tVar 0) (tC (.str "abcd")))))))
theorem cst_f_is_shelf (c c2 : CF → Fn) : SndS none none (b_f_is_shelf c c2) (ct_f_is_shelf (fun g => tv (c g)) (ov c) (ov c2)) := by
  unfold b_f_is_shelf ct_f_is_shelf
  exact (ss_seq (ss_if (snd_test (snd_call (tv_T _) (snd_cons snd_var (snd_cons snd_str snd_nil)))) (ss_ret (snd_bin sq_in snd_var snd_var)) ss_nil)
    (ss_ret (snd_andV (snd_isi snd_var) (snd_andV (snd_bin sq_eq (snd_fn sf_len (snd_cons snd_var snd_nil)) snd_int) (snd_bin sq_in snd_var snd_str)))))
theorem cq_f_is_shelf {n : Nat} {ts : List T} {r : RT T} (e : trun 2 2 (ct_f_is_shelf (fun g => tv (csem (n + 1) g)) (ov (csem (n + 1))) (ov (csem n))) ts = r) (hr : r ≠ .bad) : tv (csem (n + 2) .f_is_shelf) ts = r := tv_of (by rw [cs_f_is_shelf]; exact fn_T (cst_f_is_shelf _ _)) e hr
noncomputable def ot_m_Reader_init (c : CF → TFn) (o o2 : CF → OFn) : OSDen :=
    (osSeq (osSet "rules" (up (tVar 1)))
    (osSeq (osSet "below" (up (tVar 2)))
    (osSet "left" (up (tC (.int 60))))))
theorem ost_m_Reader_init (c c2 : CF → Fn) : SndS2 0 "Reader" (b_m_Reader_init c c2) (ot_m_Reader_init (fun g => tv (c g)) (ov c) (ov c2)) := by
  unfold b_m_Reader_init ot_m_Reader_init
  exact (os_seq (os_set (s2_up (snd_var (j := some 0) (i := 1))))
    (os_seq (os_set (s2_up (snd_var (j := some 0) (i := 2))))
    (os_set (s2_up snd_int))))
theorem oq_m_Reader_init {n : Nat} {ts : List T} {ω : Om} {r : RT (T × Om)} (e : orun 0 3 3 (ot_m_Reader_init (fun g => tv (csem (n + 1) g)) (ov (csem (n + 1))) (ov (csem n))) ts ω = r) (hr : r ≠ .bad) : ov (csem (n + 2)) .m_Reader_init ts ω = r := tv2_of (pl := 0) (c := "Reader") (by rw [cs_m_Reader_init]; exact fn_O (ost_m_Reader_init _ _)) e hr
noncomputable def ot_m_Reader_is_deed (c : CF → TFn) (o o2 : CF → OFn) : OSDen :=
    (osSeq (osSet "left" (oBin qSub (oFld "left") (up (tC (.int 1)))))
    (osSeq (osIf (obOr (oTest (oBin qLt (oFld "left") (up (tC (.int 0))))) (up (tbOr (tbNot (tTest (tIsi "tuple" (tVar 1)))) (tbOr (tTest (tBin qEq (tFn qLen (tCons (tVar 1) tNil)) (tC (.int 0)))) (tbNot (tTest (tIsi "str" (tBin qGet (tVar 1) (tC (.int 0)))))))))) (osRet (up (tC (.bl false)))) osNil)
    (osSeq (osAsg (up (tBin qGet (tVar 1) (tC (.int 0)))) (hN 3))
    (osSeq (osIf (up (tTest (tBin qIn (tVar 3) (tTup (tCons (tC (.str "number")) (tCons (tC (.str "name")) (tCons (tC (.str "read")) (tCons (tC (.str "do")) (tCons (tC (.str "ask")) tNil))))))))) (osRet (up (tCall 2 (c .f_is_leaf) (tCons (tVar 1) (tCons (tVar 2) tNil))))) osNil)
    (osSeq (osIf (up (tTest (tBin qEq (tVar 3) (tC (.str "call"))))) (osRet (oMeth "is_call" 3 (o .m_Reader_is_call) (up (tCons (tVar 1) (tCons (tVar 2) tNil))))) osNil)
    (osSeq (osIf (up (tTest (tBin qEq (tVar 3) (tC (.str "write"))))) (osRet (oAndV (up (tBin qEq (tFn qLen (tCons (tVar 1) tNil)) (tC (.int 3)))) (oAndV (up (tCall 2 (c .f_is_shelf) (tCons (tBin qGet (tVar 1) (tC (.int 1))) (tCons (tVar 2) tNil)))) (oMeth "is_deed" 3 (o .m_Reader_is_deed) (up (tCons (tBin qGet (tVar 1) (tC (.int 2))) (tCons (tVar 2) tNil))))))) osNil)
    (osSeq (osIf (up (tTest (tBin qIn (tVar 3) (tTup (tCons (tC (.str "let")) (tCons (tC (.str "own")) tNil)))))) (osSeq (osIf (up (tbOr (tTest (tBin qNe (tFn qLen (tCons (tVar 1) tNil)) (tC (.int 4)))) (tbNot (tTest (tCall 2 (c .f_is_word) (tCons (tBin qGet (tVar 1) (tC (.int 1))) (tCons (tBin qGet (tDisp [((tC (.str "let")), (tC (.str "xyz"))), ((tC (.str "own")), (tC (.str "pq")))]) (tVar 3)) tNil))))))) (osRet (up (tC (.bl false)))) osNil)
    (osRet (oAndV (oMeth "is_deed" 3 (o .m_Reader_is_deed) (up (tCons (tBin qGet (tVar 1) (tC (.int 2))) (tCons (tVar 2) tNil)))) (oMeth "is_deed" 3 (o .m_Reader_is_deed) (up (tCons (tBin qGet (tVar 1) (tC (.int 3))) (tCons (tBin qAdd (tVar 2) (tLst (tCons (tBin qGet (tVar 1) (tC (.int 1))) tNil))) tNil))))))) osNil)
    (osSeq (osAsg (up (tDisp [((tC (.str "add")), (tC (.int 3))), ((tC (.str "less")), (tC (.int 3))), ((tC (.str "then")), (tC (.int 3))), ((tC (.str "loop")), (tC (.int 3))), ((tC (.str "if")), (tC (.int 4))), ((tC (.str "say")), (tC (.int 2)))])) (hN 4))
    (osSeq (osIf (up (tTest (tBin qNe (tFn qLen (tCons (tVar 1) tNil)) (tGet2 (tVar 4) (tVar 3) (tC (.int 0)))))) (osRet (up (tC (.bl false)))) osNil)
    (osRet (oFn qAll (oCons (oLc (tiAny (tSl (tVar 1) (tPart (tC (.int 1))) tNoPart)) (hN 5) tYes (oMeth "is_deed" 3 (o .m_Reader_is_deed) (up (tCons (tVar 5) (tCons (tVar 2) tNil)))) [5]) (up tNil)))))))))))))
theorem ost_m_Reader_is_deed (c c2 : CF → Fn) : SndS2 0 "Reader" (b_m_Reader_is_deed c c2) (ot_m_Reader_is_deed (fun g => tv (c g)) (ov c) (ov c2)) := by
  unfold b_m_Reader_is_deed ot_m_Reader_is_deed
  exact (os_seq (os_set (s2_bin sq_sub s2_fld (s2_up snd_int)))
    (os_seq (os_if (s2_or (s2_test (s2_bin sq_int s2_fld (s2_up snd_int))) (s2_up (snd_or (snd_not (snd_test (snd_isi (snd_var (j := some 0) (i := 1))))) (snd_or (snd_test (snd_bin sq_eq (snd_fn sf_len (snd_cons (snd_var (j := some 0) (i := 1)) snd_nil)) snd_int)) (snd_not (snd_test (snd_isi (snd_bin sq_get (snd_var (j := some 0) (i := 1)) snd_int)))))))) (os_ret (s2_up snd_bl)) os_nil)
    (os_seq (os_asg (s2_up (snd_bin sq_get (snd_var (j := some 0) (i := 1)) snd_int)) (sg_name (j := some 0) 3))
    (os_seq (os_if (s2_up (snd_test (snd_bin sq_in (snd_var (j := some 0) (i := 3)) (snd_tup (snd_cons snd_str (snd_cons snd_str (snd_cons snd_str (snd_cons snd_str (snd_cons snd_str snd_nil))))))))) (os_ret (s2_up (snd_call (tv_T _) (snd_cons (snd_var (j := some 0) (i := 1)) (snd_cons (snd_var (j := some 0) (i := 2)) snd_nil))))) os_nil)
    (os_seq (os_if (s2_up (snd_test (snd_bin sq_eq (snd_var (j := some 0) (i := 3)) snd_str))) (os_ret (s2_meth (tv2_T _ _ _) (s2_up (snd_cons (snd_var (j := some 0) (i := 1)) (snd_cons (snd_var (j := some 0) (i := 2)) snd_nil))))) os_nil)
    (os_seq (os_if (s2_up (snd_test (snd_bin sq_eq (snd_var (j := some 0) (i := 3)) snd_str))) (os_ret (s2_andV (s2_up (snd_bin sq_eq (snd_fn sf_len (snd_cons (snd_var (j := some 0) (i := 1)) snd_nil)) snd_int)) (s2_andV (s2_up (snd_call (tv_T _) (snd_cons (snd_bin sq_get (snd_var (j := some 0) (i := 1)) snd_int) (snd_cons (snd_var (j := some 0) (i := 2)) snd_nil)))) (s2_meth (tv2_T _ _ _) (s2_up (snd_cons (snd_bin sq_get (snd_var (j := some 0) (i := 1)) snd_int) (snd_cons (snd_var (j := some 0) (i := 2)) snd_nil))))))) os_nil)
    (os_seq (os_if (s2_up (snd_test (snd_bin sq_in (snd_var (j := some 0) (i := 3)) (snd_tup (snd_cons snd_str (snd_cons snd_str snd_nil)))))) (os_seq (os_if (s2_up (snd_or (snd_test (snd_bin sq_ne (snd_fn sf_len (snd_cons (snd_var (j := some 0) (i := 1)) snd_nil)) snd_int)) (snd_not (snd_test (snd_call (tv_T _) (snd_cons (snd_bin sq_get (snd_var (j := some 0) (i := 1)) snd_int) (snd_cons (snd_bin sq_get (snd_disp (.cons snd_str snd_str (.cons snd_str snd_str .nil))) (snd_var (j := some 0) (i := 3))) snd_nil))))))) (os_ret (s2_up snd_bl)) os_nil)
    (os_ret (s2_andV (s2_meth (tv2_T _ _ _) (s2_up (snd_cons (snd_bin sq_get (snd_var (j := some 0) (i := 1)) snd_int) (snd_cons (snd_var (j := some 0) (i := 2)) snd_nil)))) (s2_meth (tv2_T _ _ _) (s2_up (snd_cons (snd_bin sq_get (snd_var (j := some 0) (i := 1)) snd_int) (snd_cons (snd_bin sq_add (snd_var (j := some 0) (i := 2)) (snd_lst (snd_cons (snd_bin sq_get (snd_var (j := some 0) (i := 1)) snd_int) snd_nil))) snd_nil))))))) os_nil)
    (os_seq (os_asg (s2_up (snd_disp (.cons snd_str snd_int (.cons snd_str snd_int (.cons snd_str snd_int (.cons snd_str snd_int (.cons snd_str snd_int (.cons snd_str snd_int .nil)))))))) (sg_name (j := some 0) 4))
    (os_seq (os_if (s2_up (snd_test (snd_bin sq_ne (snd_fn sf_len (snd_cons (snd_var (j := some 0) (i := 1)) snd_nil)) (snd_get2 (snd_var (j := some 0) (i := 4)) (snd_var (j := some 0) (i := 3)) snd_int)))) (os_ret (s2_up snd_bl)) os_nil)
    (os_ret (s2_fn sf_all (s2_cons (s2_lc (by decide) (si_any (snd_sl (snd_var (j := some 0) (i := 1)) (snd_part snd_int) snd_noPart)) (sg_name (j := some 0) 5) snd_yes (s2_meth (tv2_T _ _ _) (s2_up (snd_cons (snd_var (j := some 0) (i := 5)) (snd_cons (snd_var (j := some 0) (i := 2)) snd_nil))))) (s2_up snd_nil)))))))))))))
theorem oq_m_Reader_is_deed {n : Nat} {ts : List T} {ω : Om} {r : RT (T × Om)} (e : orun 0 3 6 (ot_m_Reader_is_deed (fun g => tv (csem (n + 1) g)) (ov (csem (n + 1))) (ov (csem n))) ts ω = r) (hr : r ≠ .bad) : ov (csem (n + 2)) .m_Reader_is_deed ts ω = r := tv2_of (pl := 0) (c := "Reader") (by rw [cs_m_Reader_is_deed]; exact fn_O (ost_m_Reader_is_deed _ _)) e hr
noncomputable def ot_m_Reader_is_call (c : CF → TFn) (o o2 : CF → OFn) : OSDen :=
    (osSeq (osIf (obOr (up (tTest (tBin qNe (tFn qLen (tCons (tVar 1) tNil)) (tC (.int 4))))) (obOr (up (tbNot (tTest (tCall 1 (c .f_is_number) (tCons (tBin qGet (tVar 1) (tC (.int 1))) tNil))))) (oTest (oBin qGe (up (tBin qGet (tVar 1) (tC (.int 1)))) (oFld "below"))))) (osRet (up (tC (.bl false)))) osNil)
    (osSeq (osAsg (oBin qGet (oFld "rules") (up (tBin qGet (tVar 1) (tC (.int 1))))) (hT 3 (hsCons (hN 3) (hsCons (hN 4) (hsCons (hN 5) hsNil)))))
    (osSeq (osIf (up (tbOr (tbNot (tTest (tIsi "tuple" (tBin qGet (tVar 1) (tC (.int 2)))))) (tbNot (tTest (tIsi "tuple" (tBin qGet (tVar 1) (tC (.int 3)))))))) (osRet (up (tC (.bl false)))) osNil)
    (osSeq (osIf (up (tbOr (tTest (tBin qNe (tFn qLen (tCons (tBin qGet (tVar 1) (tC (.int 2))) tNil)) (tFn qLen (tCons (tVar 3) tNil)))) (tTest (tBin qNe (tFn qLen (tCons (tBin qGet (tVar 1) (tC (.int 3))) tNil)) (tFn qLen (tCons (tVar 4) tNil)))))) (osRet (up (tC (.bl false)))) osNil)
    (osRet (oFn qAll (oCons (oLc (tiAny (tBin qAdd (tBin qGet (tVar 1) (tC (.int 2))) (tBin qGet (tVar 1) (tC (.int 3))))) (hN 6) tYes (oMeth "is_deed" 3 (o .m_Reader_is_deed) (up (tCons (tVar 6) (tCons (tVar 2) tNil)))) [6]) (up tNil))))))))
theorem ost_m_Reader_is_call (c c2 : CF → Fn) : SndS2 0 "Reader" (b_m_Reader_is_call c c2) (ot_m_Reader_is_call (fun g => tv (c g)) (ov c) (ov c2)) := by
  unfold b_m_Reader_is_call ot_m_Reader_is_call
  exact (os_seq (os_if (s2_or (s2_up (snd_test (snd_bin sq_ne (snd_fn sf_len (snd_cons (snd_var (j := some 0) (i := 1)) snd_nil)) snd_int))) (s2_or (s2_up (snd_not (snd_test (snd_call (tv_T _) (snd_cons (snd_bin sq_get (snd_var (j := some 0) (i := 1)) snd_int) snd_nil))))) (s2_test (s2_bin sq_int (s2_up (snd_bin sq_get (snd_var (j := some 0) (i := 1)) snd_int)) s2_fld)))) (os_ret (s2_up snd_bl)) os_nil)
    (os_seq (os_asg (s2_bin sq_get s2_fld (s2_up (snd_bin sq_get (snd_var (j := some 0) (i := 1)) snd_int))) (sg_tup (sg_cons (sg_name (j := some 0) 3) (sg_cons (sg_name (j := some 0) 4) (sg_cons (sg_name (j := some 0) 5) sg_nil)))))
    (os_seq (os_if (s2_up (snd_or (snd_not (snd_test (snd_isi (snd_bin sq_get (snd_var (j := some 0) (i := 1)) snd_int)))) (snd_not (snd_test (snd_isi (snd_bin sq_get (snd_var (j := some 0) (i := 1)) snd_int)))))) (os_ret (s2_up snd_bl)) os_nil)
    (os_seq (os_if (s2_up (snd_or (snd_test (snd_bin sq_ne (snd_fn sf_len (snd_cons (snd_bin sq_get (snd_var (j := some 0) (i := 1)) snd_int) snd_nil)) (snd_fn sf_len (snd_cons (snd_var (j := some 0) (i := 3)) snd_nil)))) (snd_test (snd_bin sq_ne (snd_fn sf_len (snd_cons (snd_bin sq_get (snd_var (j := some 0) (i := 1)) snd_int) snd_nil)) (snd_fn sf_len (snd_cons (snd_var (j := some 0) (i := 4)) snd_nil)))))) (os_ret (s2_up snd_bl)) os_nil)
    (os_ret (s2_fn sf_all (s2_cons (s2_lc (by decide) (si_any (snd_bin sq_add (snd_bin sq_get (snd_var (j := some 0) (i := 1)) snd_int) (snd_bin sq_get (snd_var (j := some 0) (i := 1)) snd_int))) (sg_name (j := some 0) 6) snd_yes (s2_meth (tv2_T _ _ _) (s2_up (snd_cons (snd_var (j := some 0) (i := 6)) (snd_cons (snd_var (j := some 0) (i := 2)) snd_nil))))) (s2_up snd_nil))))))))
theorem oq_m_Reader_is_call {n : Nat} {ts : List T} {ω : Om} {r : RT (T × Om)} (e : orun 0 3 7 (ot_m_Reader_is_call (fun g => tv (csem (n + 1) g)) (ov (csem (n + 1))) (ov (csem n))) ts ω = r) (hr : r ≠ .bad) : ov (csem (n + 2)) .m_Reader_is_call ts ω = r := tv2_of (pl := 0) (c := "Reader") (by rw [cs_m_Reader_is_call]; exact fn_O (ost_m_Reader_is_call _ _)) e hr
noncomputable def ct_f_is_leaf (c : CF → TFn) (o o2 : CF → OFn) : TSDen :=
    (tsSeq (tsIf (tTest (tBin qEq (tBin qGet (tVar 0) (tC (.int 0))) (tC (.str "ask")))) (tsRet (tBin qEq (tFn qLen (tCons (tVar 0) tNil)) (tC (.int 1)))) tsNil)
    (tsSeq (tsIf (tTest (tBin qNe (tFn qLen (tCons (tVar 0) tNil)) (tC (.int 2)))) (tsRet (tC (.bl false))) tsNil)
    (tsSeq (tsIf (tTest (tBin qEq (tBin qGet (tVar 0) (tC (.int 0))) (tC (.str "number")))) (tsRet (tCall 1 (c .f_is_number) (tCons (tBin qGet (tVar 0) (tC (.int 1))) tNil))) tsNil)
    (tsSeq (tsIf (tTest (tBin qEq (tBin qGet (tVar 0) (tC (.int 0))) (tC (.str "read")))) (tsRet (tCall 2 (c .f_is_shelf) (tCons (tBin qGet (tVar 0) (tC (.int 1))) (tCons (tVar 1) tNil)))) tsNil)
    (tsRet (tAndV (tCall 2 (c .f_is_word) (tCons (tBin qGet (tVar 0) (tC (.int 1))) (tCons (tBin qGet (tDisp [((tC (.str "name")), (tC (.str "xyz"))), ((tC (.str "do")), (tC (.str "fg")))]) (tBin qGet (tVar 0) (tC (.int 0)))) tNil))) (tBin qIn (tBin qGet (tVar 0) (tC (.int 1))) (tVar 1))))))))
theorem cst_f_is_leaf (c c2 : CF → Fn) : SndS none none (b_f_is_leaf c c2) (ct_f_is_leaf (fun g => tv (c g)) (ov c) (ov c2)) := by
  unfold b_f_is_leaf ct_f_is_leaf
  exact (ss_seq (ss_if (snd_test (snd_bin sq_eq (snd_bin sq_get snd_var snd_int) snd_str)) (ss_ret (snd_bin sq_eq (snd_fn sf_len (snd_cons snd_var snd_nil)) snd_int)) ss_nil)
    (ss_seq (ss_if (snd_test (snd_bin sq_ne (snd_fn sf_len (snd_cons snd_var snd_nil)) snd_int)) (ss_ret snd_bl) ss_nil)
    (ss_seq (ss_if (snd_test (snd_bin sq_eq (snd_bin sq_get snd_var snd_int) snd_str)) (ss_ret (snd_call (tv_T _) (snd_cons (snd_bin sq_get snd_var snd_int) snd_nil))) ss_nil)
    (ss_seq (ss_if (snd_test (snd_bin sq_eq (snd_bin sq_get snd_var snd_int) snd_str)) (ss_ret (snd_call (tv_T _) (snd_cons (snd_bin sq_get snd_var snd_int) (snd_cons snd_var snd_nil)))) ss_nil)
    (ss_ret (snd_andV (snd_call (tv_T _) (snd_cons (snd_bin sq_get snd_var snd_int) (snd_cons (snd_bin sq_get (snd_disp (.cons snd_str snd_str (.cons snd_str snd_str .nil))) (snd_bin sq_get snd_var snd_int)) snd_nil))) (snd_bin sq_in (snd_bin sq_get snd_var snd_int) snd_var)))))))
theorem cq_f_is_leaf {n : Nat} {ts : List T} {r : RT T} (e : trun 2 2 (ct_f_is_leaf (fun g => tv (csem (n + 1) g)) (ov (csem (n + 1))) (ov (csem n))) ts = r) (hr : r ≠ .bad) : tv (csem (n + 2) .f_is_leaf) ts = r := tv_of (by rw [cs_f_is_leaf]; exact fn_T (cst_f_is_leaf _ _)) e hr
noncomputable def ct_f_is_deed (c : CF → TFn) (o o2 : CF → OFn) : TSDen :=
    (tsRet (tMakeMeth 3 (o2 .m_Reader_init) "is_deed" 3 (o .m_Reader_is_deed) (tCons (tVar 0) (tCons (tFn qLen (tCons (tVar 0) tNil)) tNil)) (tCons (tVar 1) (tCons (tLst tNil) tNil))))
theorem cst_f_is_deed (c c2 : CF → Fn) : SndS none none (b_f_is_deed c c2) (ct_f_is_deed (fun g => tv (c g)) (ov c) (ov c2)) := by
  unfold b_f_is_deed ct_f_is_deed
  exact (ss_ret (snd_makeMeth (tv2_T _ _ _) (tv2_T _ _ _) (snd_cons snd_var (snd_cons (snd_fn sf_len (snd_cons snd_var snd_nil)) snd_nil)) (snd_cons snd_var (snd_cons (snd_lst snd_nil) snd_nil))))
theorem cq_f_is_deed {n : Nat} {ts : List T} {r : RT T} (e : trun 2 2 (ct_f_is_deed (fun g => tv (csem (n + 1) g)) (ov (csem (n + 1))) (ov (csem n))) ts = r) (hr : r ≠ .bad) : tv (csem (n + 2) .f_is_deed) ts = r := tv_of (by rw [cs_f_is_deed]; exact fn_T (cst_f_is_deed _ _)) e hr
noncomputable def ct_f_words_for (c : CF → TFn) (o o2 : CF → OFn) : TSDen :=
    (tsSeq (tsIf (tTest (tBin qEq (tBin qGet (tVar 0) (tC (.int 0))) (tC (.str "call")))) (tsSeq (tsAsg (tLst (tCons (tC (.str "(")) (tCons (tC (.str "call")) (tCons (tFn qStrX (tCons (tBin qGet (tVar 0) (tC (.int 1))) tNil)) (tCons (tC (.str "[")) tNil))))) (hN 1))
    (tsSeq (tsFor (tiAny (tBin qGet (tVar 0) (tC (.int 2)))) (hN 2) (tsAsg (tBin qAdd (tVar 1) (tCall 1 (c .f_words_for) (tCons (tVar 2) tNil))) (hN 1)))
    (tsSeq (tsAsg (tBin qAdd (tVar 1) (tLst (tCons (tC (.str "]")) (tCons (tC (.str "[")) tNil)))) (hN 1))
    (tsSeq (tsFor (tiAny (tBin qGet (tVar 0) (tC (.int 3)))) (hN 2) (tsAsg (tBin qAdd (tVar 1) (tCall 1 (c .f_words_for) (tCons (tVar 2) tNil))) (hN 1)))
    (tsRet (tBin qAdd (tVar 1) (tLst (tCons (tC (.str "]")) (tCons (tC (.str ")")) tNil))))))))) tsNil)
    (tsSeq (tsAsg (tLst (tCons (tC (.str "(")) (tCons (tBin qGet (tVar 0) (tC (.int 0))) tNil))) (hN 1))
    (tsSeq (tsFor (tiAny (tSl (tVar 0) (tPart (tC (.int 1))) tNoPart)) (hN 2) (tsAsg (tBin qAdd (tVar 1) (tIf (tTest (tIsi "tuple" (tVar 2))) (tCall 1 (c .f_words_for) (tCons (tVar 2) tNil)) (tLst (tCons (tFn qStrX (tCons (tVar 2) tNil)) tNil)))) (hN 1)))
    (tsRet (tBin qAdd (tVar 1) (tLst (tCons (tC (.str ")")) tNil)))))))
theorem cst_f_words_for (c c2 : CF → Fn) : SndS none none (b_f_words_for c c2) (ct_f_words_for (fun g => tv (c g)) (ov c) (ov c2)) := by
  unfold b_f_words_for ct_f_words_for
  exact (ss_seq (ss_if (snd_test (snd_bin sq_eq (snd_bin sq_get snd_var snd_int) snd_str)) (ss_seq (ss_asg (snd_lst (snd_cons snd_str (snd_cons snd_str (snd_cons (snd_fn sf_strX (snd_cons (snd_bin sq_get snd_var snd_int) snd_nil)) (snd_cons snd_str snd_nil))))) (sg_name 1))
    (ss_seq (ss_for (si_any (snd_bin sq_get snd_var snd_int)) (sg_name 2) (ss_asg (snd_bin sq_add snd_var (snd_call (tv_T _) (snd_cons snd_var snd_nil))) (sg_name 1)))
    (ss_seq (ss_asg (snd_bin sq_add snd_var (snd_lst (snd_cons snd_str (snd_cons snd_str snd_nil)))) (sg_name 1))
    (ss_seq (ss_for (si_any (snd_bin sq_get snd_var snd_int)) (sg_name 2) (ss_asg (snd_bin sq_add snd_var (snd_call (tv_T _) (snd_cons snd_var snd_nil))) (sg_name 1)))
    (ss_ret (snd_bin sq_add snd_var (snd_lst (snd_cons snd_str (snd_cons snd_str snd_nil))))))))) ss_nil)
    (ss_seq (ss_asg (snd_lst (snd_cons snd_str (snd_cons (snd_bin sq_get snd_var snd_int) snd_nil))) (sg_name 1))
    (ss_seq (ss_for (si_any (snd_sl snd_var (snd_part snd_int) snd_noPart)) (sg_name 2) (ss_asg (snd_bin sq_add snd_var (snd_if (snd_test (snd_isi snd_var)) (snd_call (tv_T _) (snd_cons snd_var snd_nil)) (snd_lst (snd_cons (snd_fn sf_strX (snd_cons snd_var snd_nil)) snd_nil)))) (sg_name 1)))
    (ss_ret (snd_bin sq_add snd_var (snd_lst (snd_cons snd_str snd_nil)))))))
theorem cq_f_words_for {n : Nat} {ts : List T} {r : RT T} (e : trun 1 3 (ct_f_words_for (fun g => tv (csem (n + 1) g)) (ov (csem (n + 1))) (ov (csem n))) ts = r) (hr : r ≠ .bad) : tv (csem (n + 2) .f_words_for) ts = r := tv_of (by rw [cs_f_words_for]; exact fn_T (cst_f_words_for _ _)) e hr
noncomputable def ct_f_written (c : CF → TFn) (o o2 : CF → OFn) : TSDen :=
    (tsRet (tJoin (tC (.str " ")) (tCall 1 (c .f_words_for) (tCons (tVar 0) tNil))))
theorem cst_f_written (c c2 : CF → Fn) : SndS none none (b_f_written c c2) (ct_f_written (fun g => tv (c g)) (ov c) (ov c2)) := by
  unfold b_f_written ct_f_written
  exact (ss_ret (snd_join snd_str (snd_call (tv_T _) (snd_cons snd_var snd_nil))))
theorem cq_f_written {n : Nat} {ts : List T} {r : RT T} (e : trun 1 1 (ct_f_written (fun g => tv (csem (n + 1) g)) (ov (csem (n + 1))) (ov (csem n))) ts = r) (hr : r ≠ .bad) : tv (csem (n + 2) .f_written) ts = r := tv_of (by rw [cs_f_written]; exact fn_T (cst_f_written _ _)) e hr
end DL
namespace DL
open PySem L2
mutual
def rfD : D → Bool
  | .non => true | .bl _ => true | .int _ => true | .str _ => true
  | .tup ts => rfDs ts
  | .seq ts => rfDs ts
  | .ref _ => false
def rfDs : List D → Bool
  | [] => true
  | t :: ts => rfD t && rfDs ts
end
section
end
def isMk (m : D) : Prop := (∃ v, m = markA v) ∨ (∃ x v, m = markR x v) ∨ (∃ x v, m = markW x v) ∨ ∃ v, m = markS v
theorem isMk.rf {m : D} (h : isMk m) : rfD m = true := by
  rcases h with ⟨v, rfl⟩ | ⟨x, v, rfl⟩ | ⟨x, v, rfl⟩ | ⟨v, rfl⟩ <;> rfl
def MkS (a b : Stt) : Prop := ∃ ms, b.marks = a.marks ++ ms ∧ ∀ m ∈ ms, isMk m
theorem MkS.one {a b : Stt} {m : D} (h : b.marks = a.marks ++ [m]) (hm : isMk m) : MkS a b := ⟨[m], h, fun x hx => by rw [List.mem_singleton.mp hx]; exact hm⟩
theorem MkS.trans {a b c : Stt} (x : MkS a b) (y : MkS b c) : MkS a c := by
  obtain ⟨m1, e1, h1⟩ := x
  obtain ⟨m2, e2, h2⟩ := y
  exact ⟨m1 ++ m2, by rw [e2, e1, List.append_assoc], fun m hm => (List.mem_append.mp hm).elim (h1 m) (h2 m)⟩
def shT (k : Str → Int) : T := .tup (abcd.map fun x => .int (k x))
def outT (o : Int × Stt) : T := .tup [.int o.1, shT o.2.kept, lints o.2.spoken, .int o.2.many]
section
end
section
variable {ns : List Int} {t : Int}
theorem rules_T (n : Nat) (hl : ns.length ≤ 63) (ht : 0 ≤ t) (hn : 10 ≤ n := by omega) : ∃ rs, RsLaw rs ∧ tv (csem n .f__law_rules) [tscr ns, .int t] = .ok (encRsT rs) := by
  obtain ⟨n, rfl⟩ : ∃ j, n = j + 10 := ⟨n - 10, by omega⟩
  obtain ⟨rs, h, R⟩ := rules_sem n ns t ht hl
  refine ⟨rs, R, tv_pur ?_ (by simp [plTs, (unT_scr ns).2, plT]) (unT_rules rs).2⟩
  simp only [unTs, (unT_scr ns).1, unT, (unT_rules rs).1]
  exact h
theorem light_T (n : Nat) (hl : ns.length ≤ 63) (ht : 0 ≤ t) {rs : List Rule} (R : RsLaw rs) (deep : Nat) {dd : Int} (hd : deep ≤ 50) (hn : 2 * deep + 20 ≤ n := by omega) (hdd : dd = (deep : Int) := by rfl) :
    ∃ d, tv (csem n .f__law_light) [tscr ns, .int t, .int dd, encRsT rs] = .ok (encT d) ∧ okD (szs rs) [] d ∧ dep d ≤ deep ∧ wt (rwt rs) (fun _ => 1) d ≤ 80 := by
  subst hdd
  obtain ⟨d, h, o, dd, w⟩ := light_sem ns hl R deep n hd hn t ht
  refine ⟨d, tv_pur ?_ (by simp [plTs, (unT_scr ns).2, plT, (unT_rules rs).2]) (unT_enc d).2, o, dd, w⟩
  simp only [unTs, (unT_scr ns).1, unT, (unT_rules rs).1, (unT_enc d).1]
  exact h
end
end DL
namespace DL
open PySem L2
section
variable {τ τ' : TEnv} {p q r : TDen} {g : DL.TG} {u v w : TSDen} {c c' : TDenB} {t : T} {f : TFl} {x : RT TFl} {b : Bool}
theorem t_asg (hp : p τ = .ok t) (hg : g t τ = some τ') (k : w τ' = x) : tsSeq (tsAsg p g) w τ = x := by
  simp only [tsSeq, tsAsg, hp, tsE, hg, tsN]
  exact k
theorem t_asg1 (hp : p τ = .ok t) (hg : g t τ = some τ') : tsAsg p g τ = .ok (.nx τ') := by
  simp only [tsAsg, hp, tsE, hg]
theorem t_skip (hc : c τ = .ok false) (k : w τ = x) : tsSeq (tsIf c u tsNil) w τ = x := by
  simp only [tsSeq, tsIf, hc, tsE, tsNil, tsN]
  exact k
theorem t_if (hc : c τ = .ok b) (k : (if b = true then u τ else v τ) = x) : tsIf c u v τ = x := by
  simp only [tsIf, hc, tsE]
  exact k
theorem t_seq (h : u τ = .ok (.nx τ')) (k : w τ' = x) : tsSeq u w τ = x := by
  simp only [tsSeq, h, tsN]
  exact k
theorem t_seqR (h : u τ = .ok (.rt t)) : tsSeq u w τ = .ok (.rt t) := by
  simp only [tsSeq, h, tsN]
theorem t_ret (hp : p τ = .ok t) : tsRet p τ = .ok (.rt t) := by simp only [tsRet, hp, tsE]
theorem t_run {np nN : Nat} {ts : List T} (hl : ts.length = np) (h : u (ts.map some ++ List.replicate (nN - np) none) = .ok (.rt t)) : trun np nN u ts = .ok t := by
  unfold trun
  rw [if_pos hl, h]
theorem t_for {it : TIt} {ts : List T} (hi : it τ = .ok ts) (k : tForL g u ts τ = x) : tsFor it g u τ = x := by
  simp only [tsFor, hi, tsE]
  exact k
end
def okB (n : Nat) : Bool := decide (n ≤ big)
theorem okB_iff {n : Nat} : okB n = true ↔ n ≤ big := decide_eq_true_iff
theorem okB_of {n : Nat} (h : n ≤ 1000) : okB n = true := okB_iff.mpr (Nat.le_trans h (by decide))
theorem okB_big {n : Nat} (h : n ≤ 1000000) : okB n = true := okB_iff.mpr h
@[simp] theorem okB_0 : okB 0 = true := by decide
@[simp] theorem okB_1 : okB 1 = true := by decide
@[simp] theorem okB_2 : okB 2 = true := by decide
@[simp] theorem okB_3 : okB 3 = true := by decide
@[simp] theorem okB_4 : okB 4 = true := by decide
@[simp] theorem okB_5 : okB 5 = true := by decide
@[simp] theorem okB_6 : okB 6 = true := by decide
@[simp] theorem okB_7 : okB 7 = true := by decide
@[simp] theorem okB_8 : okB 8 = true := by decide
@[simp] theorem okB_9 : okB 9 = true := by decide
@[simp] theorem okB_10 : okB 10 = true := by decide
@[simp] theorem okB_11 : okB 11 = true := by decide
@[simp] theorem okB_12 : okB 12 = true := by decide
def asB : T → RT Bool := fun t => match t with
  | .bl b => .ok b
  | _ => .bad
def asI : T → RT (Option Int) := fun d => match d with
  | .int i => .ok (some i)
  | _ => .bad
section
variable {τ : TEnv} {p q r : TDen} {qs : TDenA} {c d : TDenB} {i n : Nat} {t u : T} {ts us : List T} {b : Bool} {a e : Int} {x y : Str} {f : TFn} {o o' : TOp}
@[simp] theorem te_C : tC t τ = .ok t := rfl
@[simp] theorem te_V (h : τ[i]? = some (some t)) : tVar i τ = .ok t := by simp only [tVar, h]
@[simp] theorem te_nil : tNil τ = .ok [] := rfl
@[simp] theorem te_cons : tCons p qs τ = (p τ).bind fun t => (qs τ).bind fun ts => .ok (t :: ts) := rfl
@[simp] theorem te_bin : tBin o p q τ = (p τ).bind fun t => (q τ).bind fun u => o t u := rfl
@[simp] theorem te_call : tCall n f qs τ = (qs τ).bind fun ts => if ts.length = n then f ts else .bad := rfl
@[simp] theorem te_fn : tFn f qs τ = (qs τ).bind f := rfl
@[simp] theorem te_tup : tTup qs τ = (qs τ).bind fun ts => if okB ts.length = true then .ok (.tup ts) else .bad := by simp only [tTup, okB_iff]
@[simp] theorem te_lst : tLst qs τ = (qs τ).bind fun ts => if okB ts.length = true then .ok (.lst ts) else .bad := by simp only [tLst, okB_iff]
@[simp] theorem te_test : tTest p τ = (p τ).bind asB := rfl
@[simp] theorem asB_bl : asB (.bl b) = .ok b := rfl
@[simp] theorem te_and : tbAnd c d τ = (c τ).bind fun k => if k = true then d τ else .ok false := rfl
@[simp] theorem te_or : tbOr c d τ = (c τ).bind fun k => if k = true then .ok true else d τ := rfl
@[simp] theorem te_not : tbNot c τ = (c τ).bind fun k => .ok (!k) := rfl
@[simp] theorem te_if : tIf c p q τ = (c τ).bind fun k => if k = true then p τ else q τ := rfl
@[simp] theorem te_yes : tYes τ = .ok true := rfl
@[simp] theorem te_sl {lo hi : TDenO} : tSl p lo hi τ = (p τ).bind fun d => (lo τ).bind fun l => (hi τ).bind fun u => qSl d l u := rfl
@[simp] theorem te_noPart : tNoPart τ = .ok none := rfl
@[simp] theorem te_part : tPart p τ = (p τ).bind asI := rfl
@[simp] theorem asI_int : asI (.int a) = .ok (some a) := rfl
@[simp] theorem te_hN : hN i t τ = some (τ.set i (some t)) := rfl
@[simp] theorem te_hsNil : hsNil [] τ = some τ := rfl
@[simp] theorem te_hsCons {g : DL.TG} {gs : DL.TGs} : hsCons g gs (t :: ts) τ = (g t τ).bind fun τ => gs ts τ := rfl
@[simp] theorem te_hT {gs : DL.TGs} : hT n gs (.tup ts) τ = if ts.length = n then gs ts τ else none := rfl
@[simp] theorem te_hL {gs : DL.TGs} : hL n gs (.lst ts) τ = if ts.length = n then gs ts τ else none := rfl
@[simp] theorem q_addI : qAdd (.int a) (.int e) = .ok (.int (a + e)) := rfl
@[simp] theorem q_addL : qAdd (.lst ts) (.lst us) = if okB (ts ++ us).length = true then .ok (.lst (ts ++ us)) else .bad := by simp only [qAdd, okB_iff]
@[simp] theorem q_addT : qAdd (.tup ts) (.tup us) = if okB (ts.length + us.length) = true then .ok (.tup (ts ++ us)) else .bad := by simp only [qAdd, okB_iff]
@[simp] theorem q_subI : qSub (.int a) (.int e) = .ok (.int (a - e)) := rfl
@[simp] theorem q_lt : qLt (.int a) (.int e) = .ok (.bl (decide (a < e))) := rfl
@[simp] theorem q_le : qLe (.int a) (.int e) = .ok (.bl (decide (a ≤ e))) := rfl
@[simp] theorem q_gt : qGt (.int a) (.int e) = .ok (.bl (decide (e < a))) := rfl
@[simp] theorem q_ge : qGe (.int a) (.int e) = .ok (.bl (decide (e ≤ a))) := rfl
@[simp] theorem q_eqI : qEq (.int a) (.int e) = .ok (.bl (decide (a = e))) := rfl
@[simp] theorem q_neI : qNe (.int a) (.int e) = .ok (.bl (!decide (a = e))) := rfl
@[simp] theorem q_eqS : qEq (.str x) (.str y) = .ok (.bl (decide (x = y))) := rfl
@[simp] theorem q_neS : qNe (.str x) (.str y) = .ok (.bl (!decide (x = y))) := rfl
@[simp] theorem q_getT : qGet (.tup ts) (.int a) = match atI ts a with | some t => .ok t | none => .bad := rfl
@[simp] theorem q_getL : qGet (.lst ts) (.int a) = match atI ts a with | some t => .ok t | none => .bad := rfl
@[simp] theorem q_getS : qGet (.seq ts) (.int a) = match atI ts a with | some t => .ok t | none => .bad := rfl
@[simp] theorem q_lenT : qLen [.tup ts] = .ok (.int ts.length) := rfl
@[simp] theorem q_lenL : qLen [.lst ts] = .ok (.int ts.length) := rfl
@[simp] theorem q_lenS : qLen [.seq ts] = .ok (.int ts.length) := rfl
@[simp] theorem q_slT {lo hi : Option Int} : qSl (.tup ts) lo hi = .ok (.tup (cutT ts lo hi)) := rfl
@[simp] theorem q_slL {lo hi : Option Int} : qSl (.lst ts) lo hi = if okB ts.length = true then .ok (.lst (cutT ts lo hi)) else .bad := by simp only [qSl, okB_iff]
@[simp] theorem q_tuple : qTuple [.lst ts] = .ok (.tup ts) := rfl
@[simp] theorem q_tupleT : qTuple [.tup ts] = .ok (.tup ts) := rfl
@[simp] theorem q_listT : qList [.tup ts] = .ok (.lst ts) := rfl
@[simp] theorem q_listL : qList [.lst ts] = .ok (.lst ts) := rfl
@[simp] theorem q_intB : qI [.bl b] = .ok (.int (if b then 1 else 0)) := rfl
@[simp] theorem q_intI : qI [.int a] = .ok (.int a) := rfl
theorem cut_hi {ts : List T} {k : Nat} : cutT ts (some (k : Int)) none = ts.drop k := by
  unfold cutT
  rw [HT.sIx_nat, HT.sIx_none]
  rcases Nat.le_total k ts.length with h | h
  · rw [Nat.min_eq_left h, List.take_of_length_le]
    simp
  · rw [Nat.min_eq_right h, List.drop_length, List.drop_eq_nil_of_le h]
    simp
end
section
end
mutual
def nsq : T → Bool
  | .non => true | .bl _ => false | .int _ => true | .str _ => true
  | .tup ts => nsqs ts
  | .seq _ => false
  | .lst ts => nsqs ts
  | .dct _ => false
def nsqs : List T → Bool
  | [] => true
  | t :: ts => nsq t && nsqs ts
end
theorem py_one : ∀ (n : Nat) {t u : T} {p : PyData}, nsq t = true → nsq u = true → py n t = some p → py n u = some p → t = u
  | 0, _, _, _, _, _, h, _ => by cases h
  | n + 1, t, u, p, ht, hu, h, h' => by
    have fl : ∀ {ts us : List T} {ps : List PyData}, nsqs ts = true → nsqs us = true → fall (py n) ts = some ps → fall (py n) us = some ps → ts = us := by
      intro ts
      induction ts with
      | nil =>
        intro us ps _ _ h1 h2
        cases h1
        cases us with
        | nil => rfl
        | cons => unfold fall at h2; split at h2 <;> cases h2
      | cons a ts ih =>
        intro us ps h1 h2 h3 h4
        unfold fall at h3
        split at h3
        · rename_i e1 e2
          cases h3
          cases us with
          | nil => cases h4
          | cons b us =>
            unfold fall at h4
            split at h4
            · rename_i e3 e4
              injection h4 with h4
              injection h4 with h5 h6
              subst h5
              subst h6
              unfold nsqs at h1 h2
              rw [Bool.and_eq_true] at h1 h2
              rw [py_one n h1.1 h2.1 e1 e3, ih h1.2 h2.2 e2 e4]
            · cases h4
        · cases h3
    cases t with
    | bl => cases ht
    | seq => cases ht
    | dct => cases ht
    | non => cases h; cases u <;> first | rfl | (cases h') | (simp [py] at h')
    | int i => cases h; cases u <;> first | (cases h'; rfl) | (simp [py] at h')
    | str i => cases h; cases u <;> first | (cases h'; rfl) | (simp [py] at h')
    | tup ts =>
      obtain ⟨ps, e1, rfl⟩ := Option.map_eq_some_iff.mp (show (fall (py n) ts).map PyData.tuple = some p from h)
      cases u with
      | tup us =>
        obtain ⟨qs, e2, e3⟩ := Option.map_eq_some_iff.mp (show (fall (py n) us).map PyData.tuple = _ from h')
        cases e3
        rw [fl (show nsqs ts = true from ht) (show nsqs us = true from hu) e1 e2]
      | lst us =>
        obtain ⟨qs, e2, e3⟩ := Option.map_eq_some_iff.mp (show (fall (py n) us).map PyData.list = _ from h')
        cases e3
      | seq us => cases hu
      | _ => cases h'
    | lst ts =>
      obtain ⟨ps, e1, rfl⟩ := Option.map_eq_some_iff.mp (show (fall (py n) ts).map PyData.list = some p from h)
      cases u with
      | lst us =>
        obtain ⟨qs, e2, e3⟩ := Option.map_eq_some_iff.mp (show (fall (py n) us).map PyData.list = _ from h')
        cases e3
        rw [fl (show nsqs ts = true from ht) (show nsqs us = true from hu) e1 e2]
      | tup us =>
        obtain ⟨qs, e2, e3⟩ := Option.map_eq_some_iff.mp (show (fall (py n) us).map PyData.tuple = _ from h')
        cases e3
      | seq us => cases hu
      | _ => cases h'
def FineK (k : Nat) (t : T) : Prop := nsq t = true ∧ ∃ p, (∀ n, k < n → py n t = some p) ∧ Lay p k ∧ nb p = true
theorem FineK.mono {k j : Nat} {t : T} (h : FineK k t) (hj : k ≤ j) : FineK j t := by
  obtain ⟨a, p, b, c, d⟩ := h
  exact ⟨a, p, fun n hn => b n (by omega), c.mono hj, d⟩
theorem FineK.non (k : Nat) : FineK k .non := ⟨rfl, .none, fun n hn => (by obtain ⟨m, rfl⟩ : ∃ m, n = m + 1 := ⟨n - 1, by omega⟩; rfl), ⟨rfl, by rw [PyData.depth]; omega⟩, rfl⟩
theorem FineK.int (k : Nat) (i : Int) : FineK k (.int i) := ⟨rfl, .int i, fun n hn => (by obtain ⟨m, rfl⟩ : ∃ m, n = m + 1 := ⟨n - 1, by omega⟩; rfl), .int i k, rfl⟩
theorem FineK.str (k : Nat) {x : Str} (h : sok x = true) : FineK k (.str x) := ⟨rfl, .str x, fun n hn => (by obtain ⟨m, rfl⟩ : ∃ m, n = m + 1 := ⟨n - 1, by omega⟩; rfl), .str h k, rfl⟩
def FineL (k : Nat) (ts : List T) : Prop := nsqs ts = true ∧ ∃ ps, (∀ n, k < n → fall (py n) ts = some ps) ∧ Lays ps k ∧ nbs ps = true
theorem FineL.nil (k : Nat) : FineL k [] := ⟨rfl, [], fun _ _ => rfl, .nil k, rfl⟩
theorem FineL.cons {k : Nat} {t : T} {ts : List T} (h : FineK k t) (hs : FineL k ts) : FineL k (t :: ts) := by
  obtain ⟨a, p, b, c, d⟩ := h
  obtain ⟨a', p', b', c', d'⟩ := hs
  exact ⟨by simp [nsqs, a, a'], p :: p', fun n hn => fall_cons (b n hn) (b' n hn), .cons c c', by simp [nbs, d, d']⟩
theorem FineL.all {k : Nat} : ∀ {ts : List T}, (∀ t ∈ ts, FineK k t) → FineL k ts
  | [], _ => .nil k
  | t :: ts, h => .cons (h t List.mem_cons_self) (FineL.all fun u hu => h u (List.mem_cons_of_mem _ hu))
theorem FineK.tup {k : Nat} {ts : List T} (h : FineL k ts) : FineK (k + 1) (.tup ts) := by
  obtain ⟨a, p, b, c, d⟩ := h
  refine ⟨a, .tuple p, fun n hn => ?_, .tup c, d⟩
  obtain ⟨m, rfl⟩ : ∃ m, n = m + 1 := ⟨n - 1, by omega⟩
  show (fall (py m) ts).map PyData.tuple = _
  rw [b m (by omega)]
  rfl
theorem FineK.lst {k : Nat} {ts : List T} (h : FineL k ts) : FineK (k + 1) (.lst ts) := by
  obtain ⟨a, p, b, c, d⟩ := h
  refine ⟨a, .list p, fun n hn => ?_, .lst c, d⟩
  obtain ⟨m, rfl⟩ : ∃ m, n = m + 1 := ⟨n - 1, by omega⟩
  show (fall (py m) ts).map PyData.list = _
  rw [b m (by omega)]
  rfl
abbrev Fine (t : T) : Prop := FineK 38 t
theorem sEqT_dec {t u : T} {b : Bool} [Decidable (t = u)] (ht : nsq t = true) (hu : nsq u = true) (h : sEqT t u = some b) : b = decide (t = u) := by
  unfold sEqT at h
  split at h <;> first | (cases h; simp; done) | (cases ht; done) | (cases hu; done) | (cases h; done)
theorem eqT_fine {t u : T} (ht : Fine t) (hu : Fine u) [Decidable (t = u)] : eqT t u = some (decide (t = u)) := by
  obtain ⟨a, p, b, c, d⟩ := ht
  obtain ⟨a', p', b', c', d'⟩ := hu
  have e1 := b deep (by decide)
  have e2 := b' deep (by decide)
  have key : (if SeqAt.shaped p = true ∧ SeqAt.shaped p' = true then some (PyData.eqv p p') else none) = some (decide (t = u)) := by
    rw [if_pos ⟨c.shaped (by decide), c'.shaped (by decide)⟩]
    congr 1
    rw [Bool.eq_iff_iff, eqv_iff p p' d d', decide_eq_true_iff]
    constructor
    · rintro rfl
      exact py_one deep a a' e1 e2
    · rintro rfl
      rw [e1] at e2
      cases e2
      rfl
  have gen : sEqT t u = none → eqT t u = some (decide (t = u)) := fun h => by
    unfold eqT
    rw [h, e1, e2]
    exact key
  cases h : sEqT t u with
  | none => exact gen h
  | some b =>
    unfold eqT
    rw [h, sEqT_dec a a' h]
open Classical in
theorem qEq_fine {t u : T} (ht : Fine t) (hu : Fine u) : qEq t u = .ok (.bl (decide (t = u))) := by
  unfold qEq
  rw [eqT_fine ht hu]
open Classical in
theorem qNe_fine {t u : T} (ht : Fine t) (hu : Fine u) : qNe t u = .ok (.bl (!decide (t = u))) := by
  unfold qNe
  rw [eqT_fine ht hu]
theorem qEq_same {t u : T} (h : Fine t) (e : t = u) : qEq t u = .ok (.bl true) := by
  subst e
  rw [qEq_fine h h]
  simp
theorem fall_any {n : Nat} {t : T} {p : PyData} (ht : nsq t = true) (hp : py n t = some p) (hnb : nb p = true) : ∀ {us : List T} {ps : List PyData}, nsqs us = true → fall (py n) us = some ps → nbs ps = true → ((ps.any fun z => PyData.eqv z p) = true ↔ t ∈ us)
  | [], _, _, e, _ => by cases e; simp
  | u :: us, _, h, e, hb => by
    unfold fall at e
    split at e
    · rename_i a r e1 e2
      cases e
      unfold nsqs at h
      rw [Bool.and_eq_true] at h
      unfold nbs at hb
      rw [Bool.and_eq_true] at hb
      rw [List.any_cons, Bool.or_eq_true, fall_any ht hp hnb h.2 e2 hb.2, List.mem_cons, eqv_iff _ _ hb.1 hnb]
      constructor
      · rintro (rfl | h2)
        · exact .inl (py_one n ht h.1 hp e1)
        · exact .inr h2
      · rintro (rfl | h2)
        · rw [hp] at e1; cases e1; exact .inl rfl
        · exact .inr h2
    · cases e
theorem flat_any {t : T} (ht : nsq t = true) (hf : flatT t = true) : ∀ {us : List T}, nsqs us = true → us.all flatT = true → ((us.any fun z => eqFT z t) = true ↔ t ∈ us)
  | [], _, _ => by simp
  | u :: us, h, e => by
    unfold nsqs at h
    rw [Bool.and_eq_true] at h
    rw [List.all_cons, Bool.and_eq_true] at e
    rw [List.any_cons, Bool.or_eq_true, flat_any ht hf h.2 e.2, List.mem_cons]
    have : eqFT u t = true ↔ t = u := by
      cases t <;> first | (cases ht; done) | (cases hf; done) | (have h1 := h.1; have e1 := e.1; cases u <;> first | (cases h1; done) | (cases e1; done) | (simp only [eqFT, beq_iff_eq, T.int.injEq]; exact eq_comm) | (simp only [eqFT, beq_iff_eq, T.str.injEq]; exact eq_comm) | (simp [eqFT]; done))
    rw [this]
open Classical in
theorem inS_fine {t u : T} {us : List T} (ht : Fine t) (hu : FineL 37 us) (e : u = .lst us ∨ u = .tup us) : inS t u = some (decide (t ∈ us)) := by
  have ei : itsT u = some us := by rcases e with rfl | rfl <;> rfl
  unfold inS
  rw [ei]
  obtain ⟨a, p, b, c, d⟩ := ht
  obtain ⟨a', ps, b', c', d'⟩ := hu
  simp only
  split
  · rename_i hf
    congr 1
    rw [Bool.eq_iff_iff, flat_any a hf.1 a' hf.2, decide_eq_true_iff]
  · have e1 := b deep (by decide)
    have e1' := b 39 (by decide)
    have e3 : (ps.any fun z => PyData.eqv z p) = decide (t ∈ us) := by
      rw [Bool.eq_iff_iff, fall_any a e1' d a' (b' 39 (by decide)) d', decide_eq_true_iff]
    have e2 : py deep u = some (.list ps) ∨ py deep u = some (.tuple ps) := by
      rcases e with rfl | rfl
      · left
        show (fall (py 39) us).map PyData.list = _
        rw [b' 39 (by decide)]
        rfl
      · right
        show (fall (py 39) us).map PyData.tuple = _
        rw [b' 39 (by decide)]
        rfl
    rw [e1]
    have s1 := c.shaped (by decide)
    rcases e2 with e2 | e2
    · have s2 := (Lay.lst c').shaped (by decide)
      rw [e2]
      simp only [s1, s2, and_self, if_true, e3]
    · have s2 := (Lay.tup c').shaped (by decide)
      rw [e2]
      simp only [s1, s2, and_self, if_true, e3]
theorem inT_of {t u : T} {us : List T} (e : u = .lst us ∨ u = .tup us) : inT t u = inS t u := by
  rcases e with rfl | rfl <;> cases t <;> rfl
open Classical in
theorem qIn_fine {t u : T} {us : List T} (ht : Fine t) (hu : FineL 37 us) (e : u = .lst us ∨ u = .tup us) : qIn t u = .ok (.bl (decide (t ∈ us))) := by
  unfold qIn
  rw [inT_of e, inS_fine ht hu e]
end DL
namespace DL
open PySem L2
theorem law_end {f : Fn} {ns : List Int} (h : tv f [tscr ns] = .ok (.bl true)) : ∃ S, f [.seq (ns.map D.int)] [] = .ok (.bl true) S := by
  have a := tv_at f [tscr ns] (fun _ => False) [] [scr ns] (.cons (.seq (rd_ints ns)) .nil) (fun _ q => q.elim)
  rw [h] at a
  obtain ⟨S, d, e, _, r⟩ := a
  cases r
  exact ⟨S, e⟩
section
variable {g : DL.TG} {c : TDenB} {e : TDen} {vs : List Nat} {τ : TEnv} {t : T} {ts acc : List T} {p q : TDen} {a b : Int}
@[simp] theorem noX_ok {α : Type} {x : α} : noXT (.ok x) = .ok x := rfl
theorem ti_any {l : T} (h : p τ = .ok l) (hl : l = .lst ts ∨ l = .tup ts ∨ l = .seq ts) : tiAny p τ = .ok ts := by
  unfold tiAny
  rw [h]
  rcases hl with rfl | rfl | rfl <;> rfl
end
end DL
namespace DL
open PySem L2
section
variable {o : Int × Stt} {ps : List Int × Stt} {xs ys : List Int} {m : Nat} {t : T}
@[simp] theorem g_out0 : qGet (outT o) (.int 0) = .ok (.int o.1) := rfl
@[simp] theorem g_out1 : qGet (outT o) (.int 1) = .ok (shT o.2.kept) := rfl
@[simp] theorem g_out2 : qGet (outT o) (.int 2) = .ok (lints o.2.spoken) := rfl
@[simp] theorem g_out3 : qGet (outT o) (.int 3) = .ok (.int o.2.many) := rfl
@[simp] theorem q_addLi : qAdd (lints xs) (lints ys) = if okB (xs.length + ys.length) = true then .ok (lints (xs ++ ys)) else .bad := by
  simp [lints]
end
end DL
namespace DL
open PySem L2
theorem RsLaw.take {rs : List Rule} (R : RsLaw rs) (k : Nat) : RsLaw (rs.take k) := by
  refine ⟨⟨fun i r e => ?_, fun r h => R.r.dep r (List.mem_of_mem_take h), fun r h => R.r.len r (List.mem_of_mem_take h)⟩, ?_, fun r h => R.dep r (List.mem_of_mem_take h), fun r h => R.sz r (List.mem_of_mem_take h)⟩
  · have hi : i < k := by
      have := (List.getElem?_eq_some_iff.mp e).1
      rw [List.length_take] at this
      omega
    rw [List.getElem?_take_of_lt hi] at e
    rw [List.take_take, Nat.min_eq_left (by omega)]
    exact R.r.ok i r e
  · have := R.len
    rw [List.length_take]
    omega
section
end
end DL
namespace DL
open PySem L2
open KS (rise tLt ord_tup mem_rise Rising)
abbrev Mk := List Str
abbrev MR := List (List Str × List Mk)
def mR (x : Str) : Mk := ["read", x]
def mW (x : Str) : Mk := ["write", x]
def mD (x : Str) : Mk := ["do", x]
def mS : Mk := ["say"]
def mA : Mk := ["ask"]
def atCall (hs : List Str) (ms : List (List Mk)) (m : Mk) : List Mk := match m with
  | [w, x] => if w = ("do" : Str) then (match firstAt x hs with
    | some j => ms.getD j []
    | none => []) else [m]
  | m => [m]
def ruleAt (R : MR) (i : Nat) : List Str × List Mk := R.getD i ([], [])
mutual
def mkD (R : MR) : Deed → List Mk
  | .num _ => []
  | .nam _ => []
  | .dod x => [mD x]
  | .ask => [mA]
  | .rd x => [mR x]
  | .wr x a => rise tLt (mW x :: mkD R a)
  | .say a => rise tLt (mS :: mkD R a)
  | .lt _ a b => rise tLt (mkD R a ++ mkD R b)
  | .own x a b => rise tLt (mkD R a ++ (mkD R b).filter fun m => !(m == mR x) && !(m == mW x))
  | .iff a b c => rise tLt (mkD R a ++ mkD R b ++ mkD R c)
  | .two _ a b => rise tLt (mkD R a ++ mkD R b)
  | .call i ps hs => rise tLt ((mkDs R ps).flatten ++ (ruleAt R i).2.flatMap (atCall (ruleAt R i).1 (mkDs R hs)))
def mkDs (R : MR) : List Deed → List (List Mk)
  | [] => []
  | d :: ds => mkD R d :: mkDs R ds
end
def rmk (rs : List Rule) : MR := rs.foldl (fun R r => R ++ [(r.hs, mkD R r.b)]) []
theorem rmk_snoc (rs : List Rule) (r : Rule) : rmk (rs ++ [r]) = rmk rs ++ [(r.hs, mkD (rmk rs) r.b)] := by
  unfold rmk
  rw [List.foldl_append]
  rfl
theorem rmk_len : ∀ rs : List Rule, (rmk rs).length = rs.length := snoc_ind rfl fun l r ih => by rw [rmk_snoc]; simp [ih]
theorem ruleAt_app {R E : MR} {i : Nat} (h : i < R.length) : ruleAt (R ++ E) i = ruleAt R i := by
  unfold ruleAt
  rw [List.getD_eq_getElem?_getD, List.getD_eq_getElem?_getD, List.getElem?_append_left h]
def okM (K : List Str) (m : Mk) : Prop := m = mS ∨ m = mA ∨ (∃ x, (x ∈ K ∧ kd x = 2 ∨ x ∈ abcd) ∧ (m = mR x ∨ m = mW x)) ∨ ∃ x, x ∈ K ∧ kd x = 3 ∧ m = mD x
theorem at_say (hs : List Str) (ms : List (List Mk)) : atCall hs ms mS = [mS] := rfl
theorem at_ask (hs : List Str) (ms : List (List Mk)) : atCall hs ms mA = [mA] := rfl
theorem at_rd (hs : List Str) (ms : List (List Mk)) (x : Str) : atCall hs ms (mR x) = [mR x] := by
  show (if ("read" : Str) = ("do" : Str) then (match firstAt x hs with | some j => ms.getD j [] | none => []) else [mR x]) = _
  exact if_neg (by decide +kernel)
theorem at_wr (hs : List Str) (ms : List (List Mk)) (x : Str) : atCall hs ms (mW x) = [mW x] := by
  show (if ("write" : Str) = ("do" : Str) then (match firstAt x hs with | some j => ms.getD j [] | none => []) else [mW x]) = _
  exact if_neg (by decide +kernel)
theorem at_do {hs : List Str} {ms : List (List Mk)} {x : Str} {j : Nat} (h : firstAt x hs = some j) : atCall hs ms (mD x) = ms.getD j [] := by
  show (if ("do" : Str) = ("do" : Str) then (match firstAt x hs with | some j => ms.getD j [] | none => []) else [mD x]) = _
  rw [if_pos rfl, h]
end DL
namespace DL
open PySem
open KS (rise tLt ord_tup mem_rise Rising)
def isTp : T → Bool
  | .tup _ => true
  | _ => false
def okTop (t : T) : Prop := (∃ x, t = .str x) ∨ (∃ i, t = .int i) ∨ ∃ us, t = .tup us
theorem kit_top {t : T} (h : okTop t) : L2.kitB (tyT t) "tuple" = some (isTp t) := by
  rcases h with ⟨x, rfl⟩ | ⟨x, rfl⟩ | ⟨x, rfl⟩
  · show L2.kitB "str" "tuple" = some false; decide +kernel
  · show L2.kitB "int" "tuple" = some false; decide +kernel
  · show L2.kitB "tuple" "tuple" = some true; decide +kernel
theorem top_enc : ∀ d : Deed, ∃ us, encT d = .tup us
  | .num _ => ⟨_, rfl⟩ | .nam _ => ⟨_, rfl⟩ | .dod _ => ⟨_, rfl⟩ | .ask => ⟨_, rfl⟩ | .rd _ => ⟨_, rfl⟩ | .wr _ _ => ⟨_, rfl⟩ | .say _ => ⟨_, rfl⟩
  | .lt _ _ _ => ⟨_, rfl⟩ | .own _ _ _ => ⟨_, rfl⟩ | .iff _ _ _ => ⟨_, rfl⟩ | .two _ _ _ => ⟨_, rfl⟩ | .call _ _ _ => ⟨_, rfl⟩
theorem okTop_enc (d : Deed) : okTop (encT d) := .inr (.inr (top_enc d))
theorem isTp_enc (d : Deed) : isTp (encT d) = true := by obtain ⟨us, e⟩ := top_enc d; rw [e]; rfl
end DL
namespace DL
open PySem
open KS (rise tLt ord_tup mem_rise Rising)
def lm (l : List Mk) : T := .lst (l.map unX)
theorem lm_add {l m : List Mk} (h : l.length + m.length ≤ 1000000) : qAdd (lm l) (lm m) = .ok (lm (l ++ m)) := by
  unfold lm
  rw [q_addL, if_pos (okB_big (by simpa using h)), List.map_append]
section
end
end DL
namespace DL
open PySem
open KS (rise tLt ord_tup mem_rise Rising)
end DL
namespace DL
open PySem
open KS (rise tLt ord_tup mem_rise Rising)
section
end
theorem okTop_str (x : Str) : okTop (.str x) := .inl ⟨x, rfl⟩
theorem dep_in {d : Deed} : ∀ {ds : List Deed}, d ∈ ds → dep d ≤ deps ds
  | e :: ds, h => by
    simp only [deps]
    rcases List.mem_cons.mp h with rfl | h
    · omega
    · have := dep_in h; omega
abbrev cRWD : TDenB := tTest (tBin qIn (tVar 2) (tTup (tCons (tC (.str "read")) (tCons (tC (.str "write")) (tCons (tC (.str "do")) tNil)))))
abbrev cSA : TDenB := tTest (tBin qIn (tVar 2) (tTup (tCons (tC (.str "say")) (tCons (tC (.str "ask")) tNil))))
abbrev hdT (rest : TSDen) : TSDen := tsSeq (tsAsg (tBin qGet (tVar 1) (tC (.int 0))) (hN 2))
    (tsSeq (tsAsg (tLst tNil) (hN 3))
    (tsSeq (tsIf cRWD (tsAsg (tLst (tCons (tTup (tCons (tVar 2) (tCons (tBin qGet (tVar 1) (tC (.int 1))) tNil))) tNil)) (hN 3)) tsNil)
    (tsSeq (tsIf cSA (tsAsg (tLst (tCons (tTup (tCons (tVar 2) tNil)) tNil)) (hN 3)) tsNil) rest)))
section
variable {A D : T} {w x : Str} {ts : List T} {rest : TSDen} {r : RT TFl}
theorem hd0 (h1 : ∀ z : T, cRWD [some A, some z, some (.str w), some (lm []), none, none, none] = .ok false) (h2 : ∀ z : T, cSA [some A, some z, some (.str w), some (lm []), none, none, none] = .ok false)
    (k : rest [some A, some (.tup (.str w :: ts)), some (.str w), some (lm []), none, none, none] = r) : hdT rest [some A, some (.tup (.str w :: ts)), none, none, none, none, none] = r :=
  t_asg (t := .str w) (by simp) rfl (t_asg (t := lm []) rfl rfl (t_skip (h1 _) (t_skip (h2 _) k)))
theorem hd1 (h1 : ∀ z : T, cRWD [some A, some z, some (.str w), some (lm []), none, none, none] = .ok true) (h2 : ∀ z y : T, cSA [some A, some z, some (.str w), some y, none, none, none] = .ok false)
    (k : rest [some A, some (.tup (.str w :: .str x :: ts)), some (.str w), some (lm [[w, x]]), none, none, none] = r) : hdT rest [some A, some (.tup (.str w :: .str x :: ts)), none, none, none, none, none] = r := by
  refine t_asg (t := .str w) (by simp) rfl (t_asg (t := lm []) rfl rfl (t_seq (τ' := [some A, some (.tup (.str w :: .str x :: ts)), some (.str w), some (lm [[w, x]]), none, none, none]) (t_if (h1 _) ?_) (t_skip (h2 _ _) k)))
  rw [if_pos rfl]
  exact t_asg1 (t := lm [[w, x]]) (by simp [lm, unX]) rfl
theorem hd2 (h1 : ∀ z : T, cRWD [some A, some z, some (.str w), some (lm []), none, none, none] = .ok false) (h2 : ∀ z : T, cSA [some A, some z, some (.str w), some (lm []), none, none, none] = .ok true)
    (k : rest [some A, some (.tup (.str w :: ts)), some (.str w), some (lm [[w]]), none, none, none] = r) : hdT rest [some A, some (.tup (.str w :: ts)), none, none, none, none, none] = r := by
  refine t_asg (t := .str w) (by simp) rfl (t_asg (t := lm []) rfl rfl (t_skip (h1 _) (t_seq (τ' := [some A, some (.tup (.str w :: ts)), some (.str w), some (lm [[w]]), none, none, none]) (t_if (h2 _) ?_) k)))
  rw [if_pos rfl]
  exact t_asg1 (t := lm [[w]]) (by simp [lm, unX]) rfl
end
section
end
section
end
end DL
namespace DL
open PySem
open KS (rise tLt ord_tup mem_rise Rising)
section
section
end
end
end DL
namespace DL
open PySem
open KS (rise tLt ord_tup mem_rise Rising)
section
section
end
end
end DL
namespace DL
open PySem
open KS (rise tLt ord_tup mem_rise Rising)
theorem sok_words : sok "number" = true ∧ sok "name" = true ∧ sok "do" = true ∧ sok "ask" = true ∧ sok "read" = true ∧ sok "write" = true ∧ sok "say" = true ∧ sok "let" = true ∧ sok "own" = true ∧ sok "if" = true ∧ sok "call" = true ∧ ∀ w : Two, sok w.w = true := by
  refine ⟨by decide +kernel, by decide +kernel, by decide +kernel, by decide +kernel, by decide +kernel, by decide +kernel, by decide +kernel, by decide +kernel, by decide +kernel, by decide +kernel, by decide +kernel, fun w => by cases w <;> decide +kernel⟩
theorem sok_shelf {K : List Str} {x : Str} (h : (x ∈ K ∧ kd x = 2) ∨ x ∈ abcd) : sok x = true := by
  rcases h with ⟨_, h⟩ | h
  · exact sok_kd (by omega)
  · exact sok_abcd x h
theorem fine_enc {sz : List (Nat × Nat)} : ∀ (m : Nat) (d : Deed) {K : List Str} (k : Nat), dep d ≤ m → okD sz K d → 2 * m + 2 ≤ k → FineK k (encT d) := by
  intro m
  induction m with
  | zero =>
    intro d K k hd ho hk
    obtain ⟨k, rfl⟩ : ∃ j, k = j + 1 := ⟨k - 1, by omega⟩
    cases d <;> simp only [dep] at hd <;> try omega
    · exact .tup (.cons (.str _ sok_words.1) (.cons (.int _ _) (.nil _)))
    · exact .tup (.cons (.str _ sok_words.2.1) (.cons (.str _ (sok_kd (by rw [ho.2]; decide))) (.nil _)))
    · exact .tup (.cons (.str _ sok_words.2.2.1) (.cons (.str _ (sok_kd (by rw [ho.2]; decide))) (.nil _)))
    · exact .tup (.cons (.str _ sok_words.2.2.2.1) (.nil _))
    · exact .tup (.cons (.str _ sok_words.2.2.2.2.1) (.cons (.str _ (sok_shelf ho)) (.nil _)))
  | succ m ih =>
    intro d K k hd ho hk
    obtain ⟨k, rfl⟩ : ∃ j, k = j + 1 := ⟨k - 1, by omega⟩
    have sub : ∀ (a : Deed) {K' : List Str}, dep a ≤ m → okD sz K' a → FineK k (encT a) := fun a K' h1 h2 => ih a k h1 h2 (by omega)
    cases d with
    | num i => exact ih _ _ (by simp [dep]) ho (by omega)
    | nam x => exact ih _ _ (by simp [dep]) ho (by omega)
    | dod x => exact ih _ _ (by simp [dep]) ho (by omega)
    | ask => exact ih _ _ (by simp [dep]) ho (by omega)
    | rd x => exact ih _ _ (by simp [dep]) ho (by omega)
    | wr x a =>
      simp only [dep] at hd
      exact .tup (.cons (.str _ sok_words.2.2.2.2.2.1) (.cons (.str _ (sok_shelf ho.1)) (.cons (sub a (by omega) ho.2) (.nil _))))
    | say a =>
      simp only [dep] at hd
      simp only [okD] at ho
      exact .tup (.cons (.str _ sok_words.2.2.2.2.2.2.1) (.cons (sub a (by omega) ho) (.nil _)))
    | lt x a b =>
      simp only [dep] at hd
      exact .tup (.cons (.str _ sok_words.2.2.2.2.2.2.2.1) (.cons (.str _ (sok_kd (by rw [ho.1]; decide))) (.cons (sub a (by omega) ho.2.1) (.cons (sub b (by omega) ho.2.2) (.nil _)))))
    | own x a b =>
      simp only [dep] at hd
      exact .tup (.cons (.str _ sok_words.2.2.2.2.2.2.2.2.1) (.cons (.str _ (sok_kd (by rw [ho.1]; decide))) (.cons (sub a (by omega) ho.2.1) (.cons (sub b (by omega) ho.2.2) (.nil _)))))
    | iff a b c =>
      simp only [dep] at hd
      exact .tup (.cons (.str _ sok_words.2.2.2.2.2.2.2.2.2.1) (.cons (sub a (by omega) ho.1) (.cons (sub b (by omega) ho.2.1) (.cons (sub c (by omega) ho.2.2) (.nil _)))))
    | two w a b =>
      simp only [dep] at hd
      exact .tup (.cons (.str _ (sok_words.2.2.2.2.2.2.2.2.2.2.2 w)) (.cons (sub a (by omega) ho.1) (.cons (sub b (by omega) ho.2) (.nil _))))
    | call i ps hs =>
      simp only [dep] at hd
      obtain ⟨k, rfl⟩ : ∃ j, k = j + 1 := ⟨k - 1, by omega⟩
      have e0 : encT (.call i ps hs) = .tup [.str "call", .int i, .tup (ps.map encT), .tup (hs.map encT)] := by rw [encT, encTs_map, encTs_map]
      rw [e0]
      have lists : ∀ ds : List Deed, deps ds ≤ m → (∀ p ∈ ds, okD sz K p) → FineK (k + 1) (.tup (ds.map encT)) := fun ds h1 h2 => .tup (.all fun t ht => by
        obtain ⟨p, hp, rfl⟩ := List.mem_map.mp ht
        have := dep_in hp
        exact ih p k (by omega) (h2 p hp) (by omega))
      exact .tup (.cons (.str _ sok_words.2.2.2.2.2.2.2.2.2.2.1) (.cons (.int _ _) (.cons (lists ps (by omega) (okDs_iff.mp ho.2.1)) (.cons (lists hs (by omega) (okDs_iff.mp ho.2.2)) (.nil _)))))
end DL
namespace DL
open PySem
open KS (rise tLt ord_tup mem_rise Rising)
abbrev lmOwn : TSDen := tsIf (tbAnd (tTest (tBin qEq (tBin qGet (tVar 1) (tC (.int 0))) (tC (.str "own")))) (tTest (tBin qEq (tVar 5) (tC (.int 3))))) (tsAsg (tLc (tiAny (tVar 6)) (hN 4) (tTest (tBin qNe (tSl (tVar 4) (tPart (tC (.int 1))) tNoPart) (tTup (tCons (tBin qGet (tVar 1) (tC (.int 1))) tNil)))) (tVar 4) [4]) (hN 6)) tsNil
abbrev lmBody (F : List T → RT T) : TSDen := tsIf (tTest (tIsi "tuple" (tVar 3))) (tsSeq (tsAsg (tCall 2 F (tCons (tVar 0) (tCons (tVar 3) tNil))) (hN 6)) (tsSeq lmOwn (tsAsg (tBin qAdd (tVar 2) (tVar 6)) (hN 2)))) tsNil
section
variable {F : List T → RT T} {A D : T} {f g : List Mk} {t : T} {z4 z5 z6 : Option T} {p : Deed} {k : Nat} {w : Str} {ts : List T}
theorem isi_T {τ : TEnv} (h : τ[3]? = some (some t)) (ho : okTop t) : tTest (tIsi "tuple" (tVar 3)) τ = .ok (isTp t) := by
  show ((tIsi "tuple" (tVar 3)) τ).bind asB = _
  unfold tIsi
  rw [te_V h, RT.bind_ok, kit_top ho]
  rfl
theorem lm_skip (ho : okTop t) (hp : isTp t = false) : lmBody F [some A, some D, some (lm f), some t, z4, z5, z6] = .ok (.nx [some A, some D, some (lm f), some t, z4, z5, z6]) :=
  t_if (b := false) (by rw [isi_T rfl ho, hp]) rfl
theorem lm_part (h : F [A, encT p] = .ok (lm g)) (hg : f.length + g.length ≤ 1000000) (hw : w ≠ "own" ∨ k ≠ 3) :
    lmBody F [some A, some (.tup (.str w :: ts)), some (lm f), some (encT p), z4, some (.int (k : Nat)), z6] = .ok (.nx [some A, some (.tup (.str w :: ts)), some (lm (f ++ g)), some (encT p), z4, some (.int (k : Nat)), some (lm g)]) := by
  refine t_if (b := true) (by rw [isi_T rfl (okTop_enc p), isTp_enc]) ?_
  rw [if_pos rfl]
  refine t_asg (t := lm g) (by simp [h]) rfl ?_
  simp only [List.set_cons_succ, List.set_cons_zero]
  refine t_seq (τ' := [some A, some (.tup (.str w :: ts)), some (lm f), some (encT p), z4, some (.int (k : Nat)), some (lm g)]) (t_if (b := false) ?_ rfl) (t_asg1 (t := lm (f ++ g)) ?_ rfl)
  · simp only [te_and, te_test, te_bin, te_C]
    rw [te_V (t := .tup (.str w :: ts)) rfl, te_V (t := .int (k : Nat)) rfl]
    simp only [RT.bind_ok, q_getT, atI_0, q_eqS, q_eqI, asB_bl]
    rcases hw with hw | hw
    · rw [decide_eq_false hw]; rfl
    · by_cases c : w = "own"
      · rw [decide_eq_true c]
        simp only [if_true, asB_bl]
        congr 1
        exact decide_eq_false (by omega)
      · rw [decide_eq_false c]; rfl
  · simp [lm_add hg]
end
end DL
namespace DL
open PySem
open KS (rise tLt ord_tup mem_rise Rising)
section
end
end DL
namespace DL
open PySem
open KS (rise tLt ord_tup mem_rise Rising)
end DL
namespace DL
open PySem
open KS (rise tLt ord_tup mem_rise Rising)
def ItL (F : List T → RT T) (A : T) (q : T × List Mk) : Prop := (okTop q.1 ∧ isTp q.1 = false ∧ q.2 = []) ∨ ∃ p, q.1 = encT p ∧ F [A, encT p] = .ok (lm q.2) ∧ q.2.length ≤ 19
theorem ItL.str {F : List T → RT T} {A : T} (x : Str) : ItL F A (.str x, []) := .inl ⟨okTop_str x, rfl, rfl⟩
theorem ItL.int {F : List T → RT T} {A : T} (i : Int) : ItL F A (.int i, []) := .inl ⟨.inr (.inl ⟨i, rfl⟩), rfl, rfl⟩
theorem ItL.len {F : List T → RT T} {A : T} {q : T × List Mk} : ItL F A q → q.2.length ≤ 19
  | .inl ⟨_, _, e⟩ => by rw [e]; simp
  | .inr ⟨_, _, _, h⟩ => h
theorem ItL.step {F : List T → RT T} {A : T} {w : Str} {ts : List T} {q : T × List Mk} (hw : w ≠ "own") (h : ItL F A q) {k : Nat} {f : List Mk} {z4 z6 : Option T} (hf : f.length ≤ 100000) :
    ∃ z4' z6', lmBody F [some A, some (.tup (.str w :: ts)), some (lm f), some q.1, z4, some (.int (k : Nat)), z6] = .ok (.nx [some A, some (.tup (.str w :: ts)), some (lm (f ++ q.2)), some q.1, z4', some (.int (k : Nat)), z6']) := by
  obtain ⟨t, g⟩ := q
  rcases h with ⟨h1, h2, h3⟩ | ⟨p, h1, h2, h3⟩
  · simp only at h1 h2 h3
    subst h3
    exact ⟨z4, z6, by rw [List.append_nil]; exact lm_skip h1 h2⟩
  · simp only at h1 h2 h3
    subst h1
    exact ⟨_, _, lm_part h2 (by show f.length + g.length ≤ _; omega) (.inl hw)⟩
section
end
end DL
namespace DL
open PySem
open KS (rise tLt ord_tup mem_rise Rising)
section
end
end DL
namespace DL
open PySem
inductive It where
  | w (x : Str) | i (n : Int) | d (p : Deed)
def itT : It → T
  | .w x => .str x
  | .i n => .int n
  | .d p => encT p
def isCall : Deed → Bool
  | .call _ _ _ => true
  | _ => false
def hdD : Deed → Str
  | .num _ => "number" | .nam _ => "name" | .dod _ => "do" | .ask => "ask" | .rd _ => "read" | .wr _ _ => "write" | .say _ => "say"
  | .lt _ _ _ => "let" | .own _ _ _ => "own" | .iff _ _ _ => "if" | .two w _ _ => w.w | .call _ _ _ => "call"
def itsD : Deed → List It
  | .num n => [.i n] | .nam x => [.w x] | .dod x => [.w x] | .ask => [] | .rd x => [.w x] | .wr x a => [.w x, .d a] | .say a => [.d a]
  | .lt x a b => [.w x, .d a, .d b] | .own x a b => [.w x, .d a, .d b] | .iff a b c => [.d a, .d b, .d c] | .two _ a b => [.d a, .d b] | .call _ _ _ => []
theorem enc_its {d : Deed} (h : isCall d = false) : encT d = .tup (.str (hdD d) :: (itsD d).map itT) := by
  cases d <;> first | rfl | cases h
theorem hd_call {d : Deed} (h : isCall d = false) : hdD d ≠ "call" := by
  cases d <;> first | (cases h; done) | (simp only [hdD]; decide +kernel) | skip
  rename_i w a b
  cases w <;> (simp only [hdD, Two.w]; decide +kernel)
theorem its_dep {d p : Deed} (h : It.d p ∈ itsD d) : dep p < dep d := by
  cases d <;> simp only [itsD, List.mem_cons, List.not_mem_nil, or_false, It.d.injEq, reduceCtorEq, false_or] at h
  all_goals first | (subst h; simp only [dep]; omega) | (rcases h with rfl | rfl <;> simp only [dep] <;> omega) | (rcases h with rfl | rfl | rfl <;> simp only [dep] <;> omega)
theorem itT_top (t : It) : okTop (itT t) := by
  cases t with
  | w x => exact okTop_str x
  | i n => exact .inr (.inl ⟨n, rfl⟩)
  | d p => exact okTop_enc p
def itP : It → Bool
  | .d _ => true
  | _ => false
theorem itT_tp (t : It) : isTp (itT t) = itP t := by
  cases t with
  | w x => rfl
  | i n => rfl
  | d p => exact isTp_enc p
theorem dep_call {i : Nat} {ps hs : List Deed} {p : Deed} (h : p ∈ ps ∨ p ∈ hs) : dep p < dep (.call i ps hs) := by
  simp only [dep]
  rcases h with h | h
  · have := dep_in h; omega
  · have := dep_in h; omega
theorem isi_at {k : String} {i : Nat} {τ : TEnv} {t : T} {b : Bool} (h : τ[i]? = some (some t)) (hk : L2.kitB (tyT t) k = some b) : tTest (tIsi k (tVar i)) τ = .ok b := by
  show ((tIsi k (tVar i)) τ).bind asB = _
  unfold tIsi
  rw [te_V (t := t) h, RT.bind_ok, hk]
  rfl
end DL
namespace DL
open PySem
open KS (rise tLt ord_tup mem_rise)
inductive Tch where
  | ask | read (x : Str) | wrt (x : Str) (v : Int) | say (v : Int)
def actT : Tch → Thk
  | .ask => tAskd | .read x => tRead x | .wrt x v => tWrt x v | .say v => tSayd v
def mkT : Tch → Mk
  | .ask => mA | .read x => mR x | .wrt x _ => mW x | .say _ => mS
inductive Pg (α : Type) where
  | ret (a : α) | act (m : Tch) (k : Int → Pg α)
def Pg.bind {α β : Type} : Pg α → (α → Pg β) → Pg β
  | .ret a, f => f a
  | .act m k, f => .act m fun v => (k v).bind f
def Pg.go {α : Type} : Pg α → Stt → α × Stt
  | .ret a, st => (a, st)
  | .act m k, st => (k (actT m st).1).go (actT m st).2
def Pg.In {α : Type} (A : Mk → Prop) : Pg α → Prop
  | .ret _ => True
  | .act m k => A (mkT m) ∧ ∀ v, (k v).In A
theorem Pg.in_bind {α β : Type} {A : Mk → Prop} {f : α → Pg β} : ∀ {p : Pg α}, p.In A → (∀ a, (f a).In A) → (p.bind f).In A
  | .ret a, _, h => h a
  | .act m k, h, hf => ⟨h.1, fun v => in_bind (h.2 v) hf⟩
theorem Pg.In.mono {α : Type} {A B : Mk → Prop} (hAB : ∀ m, A m → B m) : ∀ {p : Pg α}, p.In A → p.In B
  | .ret _, _ => trivial
  | .act _ _, h => ⟨hAB _ h.1, fun v => Pg.In.mono hAB (h.2 v)⟩
def Stt.withC (s : Stt) (c : List Int) : Stt := ⟨s.kept, s.asked, s.many, s.spoken, s.marks, c⟩
abbrev PT := List Int → Pg (Int × List Int)
def zRet (v : Int) : PT := fun c => .ret (v, c)
def zBind (t : PT) (k : Int → PT) : PT := fun c => (t c).bind fun r => k r.1 r.2
def zAct (m : Tch) : PT := fun c => .act m fun v => .ret (v, c)
def zCell (i : Nat) : PT := fun c => .ret ((c[i]?).getD 0, c)
def zSet (i : Nat) (v : Int) : PT := fun c => .ret (v, c.set i v)
def zPush (v : Int) (k : Nat → PT) : PT := fun c => k c.length (c ++ [v])
def zIter (t : PT) : Nat → PT
  | 0 => zRet 0
  | n + 1 => zBind t fun _ => zIter t n
def itp (t : PT) : Thk := fun st => (((t st.cells).go st).1.1, ((t st.cells).go st).2.withC ((t st.cells).go st).1.2)
inductive PEV where
  | int (v : Int) | cell (i : Nat) | th (t : PT)
abbrev PEn := Str → Option PEV
abbrev PRS := List Int → List PT → PT
def putP (x : Str) (v : PEV) (env : PEn) : PEn := fun y => if y = x then some v else env y
mutual
def pgD (rs : List PRS) : Deed → PEn → PT
  | .num i, _ => zRet i
  | .nam x, env => match env x with
    | some (.int v) => zRet v
    | _ => zRet 0
  | .dod x, env => match env x with
    | some (.th t) => t
    | _ => zRet 0
  | .ask, _ => zAct .ask
  | .rd x, env => match env x with
    | some (.cell i) => zCell i
    | _ => zAct (.read x)
  | .wr x a, env => zBind (pgD rs a env) fun v => match env x with
    | some (.cell i) => zSet i v
    | _ => zAct (.wrt x v)
  | .say a, env => zBind (pgD rs a env) fun v => zAct (.say v)
  | .lt x a b, env => zBind (pgD rs a env) fun v => pgD rs b (putP x (.int v) env)
  | .own x a b, env => zBind (pgD rs a env) fun v => zPush v fun i => pgD rs b (putP x (.cell i) env)
  | .iff a b c, env => zBind (pgD rs a env) fun v => if v ≠ 0 then pgD rs b env else pgD rs c env
  | .two .thn a b, env => zBind (pgD rs a env) fun _ => pgD rs b env
  | .two .add a b, env => zBind (pgD rs a env) fun v => zBind (pgD rs b env) fun w => zRet ((v + w) % 1009)
  | .two .les a b, env => zBind (pgD rs a env) fun v => zBind (pgD rs b env) fun w => zRet (if v < w then 1 else 0)
  | .two .lop a b, env => zBind (pgD rs a env) fun v => zIter (pgD rs b env) (v % 4).toNat
  | .call i ps hs, env => pgL rs ps env fun ws => ((rs[i]?).getD fun _ _ => zRet 0) ws (pgT rs hs env)
def pgL (rs : List PRS) : List Deed → PEn → (List Int → PT) → PT
  | [], _, k => k []
  | d :: ds, env, k => zBind (pgD rs d env) fun v => pgL rs ds env fun ws => k (v :: ws)
def pgT (rs : List PRS) : List Deed → PEn → List PT
  | [], _ => []
  | d :: ds, env => pgD rs d env :: pgT rs ds env
end
def callP (r : Rule) (ws : List Int) (ts : List PT) : PEn := fun y => (r.ns.zip (ws.map PEV.int) ++ r.hs.zip (ts.map PEV.th)).lookup y
def prs (l : List Rule) : List PRS := l.foldl (fun acc r => acc ++ [fun ws ts => pgD acc r.b (callP r ws ts)]) []
theorem prs_snoc (l : List Rule) (r : Rule) : prs (l ++ [r]) = prs l ++ [fun ws ts => pgD (prs l) r.b (callP r ws ts)] := by
  unfold prs
  rw [List.foldl_append]
  rfl
theorem prs_len : ∀ l : List Rule, (prs l).length = l.length := snoc_ind rfl fun l r ih => by rw [prs_snoc, List.length_append, List.length_append, ih]; rfl
def Sm (t : Thk) (p : PT) : Prop := ∀ st, t st = itp p st
inductive EvP : Option EV → Option PEV → Prop
  | non : EvP none none
  | int (v : Int) : EvP (some (.int v)) (some (.int v))
  | cell (i : Nat) : EvP (some (.cell i)) (some (.cell i))
  | th {t : Thk} {p : PT} : Sm t p → EvP (some (.th t)) (some (.th p))
def EnvP (env : Ev) (pe : PEn) : Prop := ∀ x, EvP (env x) (pe x)
theorem EnvP.put {env : Ev} {pe : PEn} (h : EnvP env pe) {x : Str} {v : EV} {v' : PEV} (r : EvP (some v) (some v')) : EnvP (putE x v env) (putP x v' pe) := fun y => by
  unfold putE putP
  split
  · exact r
  · exact h y
theorem lookup_intP (ns : List Str) (ws : List Int) (x : Str) : ((ns.zip (ws.map EV.int)).lookup x = none ∧ (ns.zip (ws.map PEV.int)).lookup x = none) ∨ ∃ v, (ns.zip (ws.map EV.int)).lookup x = some (.int v) ∧ (ns.zip (ws.map PEV.int)).lookup x = some (.int v) := by
  induction ns generalizing ws with
  | nil => simp
  | cons y ns ih =>
    cases ws with
    | nil => simp
    | cons w ws =>
      simp only [List.map_cons, List.zip_cons_cons, List.lookup_cons]
      by_cases q : (x == y) = true
      · simp only [q]
        exact .inr ⟨_, rfl, rfl⟩
      · simp only [q]
        exact ih ws
def penv0 : PEn := fun _ => none
end DL
namespace DL
open PySem
open KS (rise tLt sLt ord_tup ord_str mem_rise Rising)
theorem mem_riseM {l : List Mk} {z : Mk} : z ∈ rise tLt l ↔ z ∈ l := mem_rise ord_tup
section
variable {rs : List Rule}
structure RsM (rs : List Rule) : Prop where
  ok : okRs rs
  len : rs.length ≤ 4
  sz : ∀ r ∈ rs, r.ns.length ≤ 100 ∧ r.hs.length ≤ 100
  dep : ∀ r ∈ rs, dep r.b ≤ 3
theorem RsLaw.m (R : RsLaw rs) : RsM rs := ⟨R.r.ok, by have := R.len; omega, fun r h => by have := R.sz r h; omega, fun r h => by have := R.dep r h; omega⟩
end
end DL
namespace DL
open PySem
open KS (rise tLt ord_tup mem_rise)
theorem nRW : ¬ (("read" : Str) = "write") := by decide +kernel
theorem nWR : ¬ (("write" : Str) = "read") := by decide +kernel
theorem nRD : ¬ (("read" : Str) = "do") := by decide +kernel
theorem nWD : ¬ (("write" : Str) = "do") := by decide +kernel
def Good (A : Mk → Prop) (pe : PEn) (m : Mk) : Prop :=
  (m = mS → A mS) ∧ (m = mA → A mA) ∧ (∀ x ∈ abcd, m = mR x → A (mR x)) ∧ (∀ x ∈ abcd, m = mW x → A (mW x)) ∧ ∀ x t, m = mD x → pe x = some (.th t) → ∀ c, (t c).In A
def GoodR (A : Mk → Prop) (hs : List Str) (us : List PT) (m : Mk) : Prop :=
  (m = mS → A mS) ∧ (m = mA → A mA) ∧ (∀ x ∈ abcd, m = mR x → A (mR x)) ∧ (∀ x ∈ abcd, m = mW x → A (mW x)) ∧ ∀ x j t, m = mD x → firstAt x hs = some j → us[j]? = some t → ∀ c, (t c).In A
structure PeK (pe : PEn) (K : List Str) : Prop where
  cell : ∀ x ∈ K, kd x = 2 → ∃ i, pe x = some (.cell i)
  off : ∀ x ∈ abcd, pe x = none
theorem PeK.put {pe : PEn} {K : List Str} (h : PeK pe K) {x : Str} {v : PEV} (hx : kd x ≠ 0) (hv : kd x = 2 → ∃ i, v = .cell i) : PeK (putP x v pe) (x :: K) := by
  refine ⟨fun y hy k2 => ?_, fun y hy => ?_⟩
  · unfold putP
    by_cases e : y = x
    · rw [if_pos e]
      subst e
      obtain ⟨i, rfl⟩ := hv k2
      exact ⟨i, rfl⟩
    · rw [if_neg e]
      rcases List.mem_cons.mp hy with q | q
      · exact absurd q e
      · exact h.cell y q k2
  · unfold putP
    rw [if_neg fun e => hx (by rw [← e]; exact kd0_abcd y hy)]
    exact h.off y hy
theorem Good.put {A : Mk → Prop} {pe : PEn} {m : Mk} (h : Good A pe m) {x : Str} {v : PEV} (hv : ∀ t, v ≠ .th t) : Good A (putP x v pe) m := by
  obtain ⟨h1, h2, h3, h4, h5⟩ := h
  refine ⟨h1, h2, h3, h4, fun y t e q => ?_⟩
  unfold putP at q
  split at q
  · cases q; exact absurd rfl (hv t)
  · exact h5 y t e q
def InR (ps : List PRS) (R : MR) : Prop := ∀ (i : Nat) (g : PRS), ps[i]? = some g → ∀ (A : Mk → Prop) (ws : List Int) (us : List PT), (∀ m ∈ (ruleAt R i).2, GoodR A (ruleAt R i).1 us m) → ∀ c, (g ws us c).In A
theorem in_bindP {A : Mk → Prop} {t : PT} {k : Int → PT} (ht : ∀ c, (t c).In A) (hk : ∀ v c, (k v c).In A) : ∀ c, (zBind t k c).In A := fun c => Pg.in_bind (ht c) fun r => hk r.1 r.2
theorem in_iter {A : Mk → Prop} {t : PT} (ht : ∀ c, (t c).In A) : ∀ n c, (zIter t n c).In A
  | 0, _ => trivial
  | n + 1, c => in_bindP ht (fun _ => in_iter ht n) c
theorem in_act {A : Mk → Prop} {m : Tch} (h : A (mkT m)) : ∀ c, (zAct m c).In A := fun _ => ⟨h, fun _ => trivial⟩
section
variable {ps : List PRS} {R : MR} {sz : List (Nat × Nat)} (hR : InR ps R)
include hR
mutual
theorem pg_in : ∀ (d : Deed) {K : List Str} {pe : PEn} {A : Mk → Prop}, okD sz K d → PeK pe K → (∀ m ∈ mkD R d, Good A pe m) → ∀ c, (pgD ps d pe c).In A
  | .num i, K, pe, A, ho, hk, h, c => trivial
  | .nam x, K, pe, A, ho, hk, h, c => by
    simp only [pgD]
    cases e : pe x with
    | none => trivial
    | some v => cases v <;> trivial
  | .dod x, K, pe, A, ho, hk, h, c => by
    simp only [pgD]
    cases e : pe x with
    | none => trivial
    | some v =>
      cases v with
      | th t => exact (h (mD x) (by simp [mkD])).2.2.2.2 x t rfl e c
      | int v => trivial
      | cell i => trivial
  | .ask, K, pe, A, ho, hk, h, c => by
    simp only [pgD]
    exact in_act ((h mA (by simp [mkD])).2.1 rfl) c
  | .rd x, K, pe, A, ho, hk, h, c => by
    simp only [pgD]
    rcases ho with ⟨hx, k2⟩ | hx
    · obtain ⟨i, e⟩ := hk.cell x hx k2
      simp only [e]
      trivial
    · simp only [hk.off x hx]
      exact in_act ((h (mR x) (by simp [mkD])).2.2.1 x hx rfl) c
  | .wr x a, K, pe, A, ho, hk, h, c => by
    simp only [pgD]
    refine in_bindP (pg_in a ho.2 hk fun m hm => h m (by simp [mkD, mem_riseM, hm])) (fun v => ?_) c
    rcases ho.1 with ⟨hx, k2⟩ | hx
    · obtain ⟨i, e⟩ := hk.cell x hx k2
      simp only [e]
      exact fun _ => trivial
    · simp only [hk.off x hx]
      exact in_act ((h (mW x) (by simp [mkD, mem_riseM])).2.2.2.1 x hx rfl)
  | .say a, K, pe, A, ho, hk, h, c => by
    simp only [pgD]
    exact in_bindP (pg_in a ho hk fun m hm => h m (by simp [mkD, mem_riseM, hm])) (fun v => in_act (m := .say v) ((h mS (by simp [mkD, mem_riseM])).1 rfl)) c
  | .lt x a b, K, pe, A, ho, hk, h, c => by
    simp only [pgD]
    refine in_bindP (pg_in a ho.2.1 hk fun m hm => h m (by simp [mkD, mem_riseM, hm])) (fun v => ?_) c
    exact pg_in b ho.2.2 (hk.put (by have := ho.1; omega) fun k2 => by have := ho.1; omega) fun m hm => (h m (by simp [mkD, mem_riseM, hm])).put fun t e => by cases e
  | .own x a b, K, pe, A, ho, hk, h, c => by
    simp only [pgD]
    refine in_bindP (pg_in a ho.2.1 hk fun m hm => h m (by simp [mkD, mem_riseM, hm])) (fun v => ?_) c
    have hb : ∀ (i : Nat) c, (pgD ps b (putP x (.cell i) pe) c).In A := fun i => pg_in b ho.2.2 (hk.put (by have := ho.1; omega) fun _ => ⟨i, rfl⟩) fun m hm => by
      by_cases e : m = mR x ∨ m = mW x
      · have na : ∀ y ∈ abcd, y ≠ x := fun y hy e => by have := kd0_abcd y hy; have := ho.1; rw [e] at *; omega
        rcases e with rfl | rfl
        · exact ⟨fun q => by simp [mR, mS] at q, fun q => by simp [mR, mA] at q, fun y hy q => by simp [mR] at q; exact absurd q.symm (na y hy), fun y hy q => by simp [mR, mW, nRW] at q, fun y t q => by simp [mR, mD, nRD] at q⟩
        · exact ⟨fun q => by simp [mW, mS] at q, fun q => by simp [mW, mA] at q, fun y hy q => by simp [mR, mW, nWR] at q, fun y hy q => by simp [mW] at q; exact absurd q.symm (na y hy), fun y t q => by simp [mW, mD, nWD] at q⟩
      · refine (h m ?_).put fun t e => by cases e
        simp only [mkD, mem_riseM, List.mem_append, List.mem_filter]
        refine .inr ⟨hm, ?_⟩
        have e1 : m ≠ mR x := fun q => e (.inl q)
        have e2 : m ≠ mW x := fun q => e (.inr q)
        simp [e1, e2]
    exact fun c => hb _ _
  | .iff a b d, K, pe, A, ho, hk, h, c => by
    simp only [pgD]
    refine in_bindP (pg_in a ho.1 hk fun m hm => h m (by simp [mkD, mem_riseM, hm])) (fun v => ?_) c
    split
    · exact pg_in b ho.2.1 hk fun m hm => h m (by simp [mkD, mem_riseM, hm])
    · exact pg_in d ho.2.2 hk fun m hm => h m (by simp [mkD, mem_riseM, hm])
  | .two .thn a b, K, pe, A, ho, hk, h, c => by
    simp only [pgD]
    exact in_bindP (pg_in a ho.1 hk fun m hm => h m (by simp [mkD, mem_riseM, hm])) (fun v => pg_in b ho.2 hk fun m hm => h m (by simp [mkD, mem_riseM, hm])) c
  | .two .add a b, K, pe, A, ho, hk, h, c => by
    simp only [pgD]
    exact in_bindP (pg_in a ho.1 hk fun m hm => h m (by simp [mkD, mem_riseM, hm])) (fun v => in_bindP (pg_in b ho.2 hk fun m hm => h m (by simp [mkD, mem_riseM, hm])) fun _ => fun _ => by unfold zRet; exact trivial) c
  | .two .les a b, K, pe, A, ho, hk, h, c => by
    simp only [pgD]
    exact in_bindP (pg_in a ho.1 hk fun m hm => h m (by simp [mkD, mem_riseM, hm])) (fun v => in_bindP (pg_in b ho.2 hk fun m hm => h m (by simp [mkD, mem_riseM, hm])) fun _ => fun _ => by unfold zRet; exact trivial) c
  | .two .lop a b, K, pe, A, ho, hk, h, c => by
    simp only [pgD]
    exact in_bindP (pg_in a ho.1 hk fun m hm => h m (by simp [mkD, mem_riseM, hm])) (fun v => in_iter (pg_in b ho.2 hk fun m hm => h m (by simp [mkD, mem_riseM, hm])) _) c
  | .call i qs hs, K, pe, A, ho, hk, h, c => by
    simp only [pgD]
    simp only [mkD, mem_riseM, List.mem_append] at h
    refine pgL_in qs ho.2.1 hk (fun m hm => h m (.inl hm)) (fun ws => ?_) c
    cases e : ps[i]? with
    | none => exact fun _ => trivial
    | some g =>
      refine hR i g e A ws _ fun m hm => ?_
      have hc : ∀ z ∈ atCall (ruleAt R i).1 (mkDs R hs) m, Good A pe z := fun z hz => h z (.inr (List.mem_flatMap.mpr ⟨m, hm, hz⟩))
      refine ⟨fun q => ?_, fun q => ?_, fun x hx q => ?_, fun x hx q => ?_, fun x j t q hj ht => ?_⟩
      · subst q; rw [at_say] at hc; exact (hc mS (by simp)).1 rfl
      · subst q; rw [at_ask] at hc; exact (hc mA (by simp)).2.1 rfl
      · subst q; rw [at_rd] at hc; exact (hc (mR x) (by simp)).2.2.1 x hx rfl
      · subst q; rw [at_wr] at hc; exact (hc (mW x) (by simp)).2.2.2.1 x hx rfl
      · subst q
        rw [at_do hj] at hc
        exact pgT_in hs ho.2.2 hk j t ht hc
theorem pgL_in : ∀ (ds : List Deed) {K : List Str} {pe : PEn} {A : Mk → Prop} {k : List Int → PT}, okDs sz K ds → PeK pe K → (∀ m ∈ (mkDs R ds).flatten, Good A pe m) → (∀ ws c, (k ws c).In A) → ∀ c, (pgL ps ds pe k c).In A
  | [], K, pe, A, k, ho, hk, h, hq, c => by simp only [pgL]; exact hq [] c
  | d :: ds, K, pe, A, k, ho, hk, h, hq, c => by
    simp only [pgL]
    simp only [mkDs, List.flatten_cons, List.mem_append] at h
    exact in_bindP (pg_in d ho.1 hk fun m hm => h m (.inl hm)) (fun v => pgL_in ds ho.2 hk (fun m hm => h m (.inr hm)) fun ws => hq _) c
theorem pgT_in : ∀ (ds : List Deed) {K : List Str} {pe : PEn} {A : Mk → Prop}, okDs sz K ds → PeK pe K → ∀ (j : Nat) (t : PT), (pgT ps ds pe)[j]? = some t → (∀ m ∈ (mkDs R ds).getD j [], Good A pe m) → ∀ c, (t c).In A
  | [], K, pe, A, ho, hk, j, t, e, h, c => by simp [pgT] at e
  | d :: ds, K, pe, A, ho, hk, 0, t, e, h, c => by
    simp only [pgT, List.getElem?_cons_zero] at e
    cases e
    exact pg_in d ho.1 hk (fun m hm => h m (by simpa [mkDs] using hm)) c
  | d :: ds, K, pe, A, ho, hk, j + 1, t, e, h, c => by
    simp only [pgT, List.getElem?_cons_succ] at e
    exact pgT_in ds ho.2 hk j t e (fun m hm => h m (by simpa [mkDs] using hm)) c
end
end
theorem lookup_at {us : List PT} {x : Str} {t : PT} : ∀ {hs : List Str} {us : List PT}, (hs.zip (us.map PEV.th)).lookup x = some (.th t) → ∃ j, firstAt x hs = some j ∧ us[j]? = some t
  | [], _, h => by simp at h
  | y :: hs, [], h => by simp at h
  | y :: hs, u :: us, h => by
    simp only [List.map_cons, List.zip_cons_cons, List.lookup_cons] at h
    unfold firstAt
    by_cases q : y = x
    · subst q
      simp at h
      exact ⟨0, if_pos rfl, by rw [h]; rfl⟩
    · have : (x == y) = false := by simp only [beq_eq_false_iff_ne]; exact fun e => q e.symm
      simp only [this] at h
      obtain ⟨j, h1, h2⟩ := lookup_at (us := us) (hs := hs) h
      exact ⟨j + 1, by rw [if_neg q, h1]; rfl, by simpa using h2⟩
theorem callP_none {r : Rule} {ws : List Int} {ts : List PT} {x : Str} (h : x ∉ r.ns ++ r.hs) : callP r ws ts x = none := by
  unfold callP
  rw [lookup_app, lookup_notin fun q => h (List.mem_append_left _ q), lookup_notin fun q => h (List.mem_append_right _ q)]
  rfl
theorem callP_th {r : Rule} {ws : List Int} {ts : List PT} {x : Str} {t : PT} (h : callP r ws ts x = some (.th t)) : ∃ j, firstAt x r.hs = some j ∧ ts[j]? = some t := by
  unfold callP at h
  rw [lookup_app] at h
  rcases lookup_intP r.ns ws x with ⟨_, e⟩ | ⟨v, _, e⟩
  · rw [e] at h
    exact lookup_at (us := ts) h
  · rw [e] at h
    cases h
theorem prs_in : ∀ l : List Rule, okRs l → InR (prs l) (rmk l) := snoc_ind (fun _ i g h => by simp [prs] at h) fun l r ih ho i g hg A ws us h c => by
  have hol := okRs_front ho
  have o := ho l.length r (by simp)
  rw [List.take_append_of_le_length (Nat.le_refl _), List.take_length] at o
  rw [prs_snoc] at hg
  rw [rmk_snoc] at h
  by_cases hi : i < l.length
  · rw [List.getElem?_append_left (by rw [prs_len]; exact hi)] at hg
    rw [ruleAt_app (by rw [rmk_len]; exact hi)] at h
    exact ih hol i g hg A ws us h c
  · have h1 := (List.getElem?_eq_some_iff.mp hg).1
    rw [List.length_append, List.length_singleton, prs_len] at h1
    have : i = l.length := by omega
    subst this
    have e : (prs l).length = l.length := prs_len l
    rw [← e, List.getElem?_append_right (Nat.le_refl _), Nat.sub_self] at hg
    cases hg
    have e2 : ruleAt (rmk l ++ [(r.hs, mkD (rmk l) r.b)]) l.length = (r.hs, mkD (rmk l) r.b) := by
      unfold ruleAt
      rw [List.getD_eq_getElem?_getD, ← rmk_len l, List.getElem?_append_right (Nat.le_refl _), Nat.sub_self]
      rfl
    rw [e2] at h
    refine pg_in (ih hol) r.b o.b ⟨fun x hx k2 => ?_, fun x hx => callP_none (o.abcd x hx)⟩ (fun m hm => ?_) c
    · rcases List.mem_append.mp hx with q | q
      · have := o.n x q; omega
      · have := o.h x q; omega
    · obtain ⟨g1, g2, g3, g4, g5⟩ := h m hm
      exact ⟨g1, g2, g3, g4, fun x t e ht => by
        obtain ⟨j, h1, h2⟩ := callP_th ht
        exact g5 x j t e h1 h2⟩
def tree (l : List Rule) (d : Deed) : Pg Int := (pgD (prs l) d penv0 []).bind fun r => .ret r.1
theorem tree_in {l : List Rule} (ho : okRs l) {d : Deed} (hd : okD (szs l) [] d) : (tree l d).In fun m => m ∈ mkD (rmk l) d := by
  refine Pg.in_bind (pg_in (prs_in l ho) d hd ⟨fun x hx => (by cases hx), fun x hx => rfl⟩ (fun m hm => ?_) []) fun _ => trivial
  exact ⟨fun e => e ▸ hm, fun e => e ▸ hm, fun x _ e => e ▸ hm, fun x _ e => e ▸ hm, fun x t _ e => by cases e⟩
end DL
namespace DL
open PySem
open KS (rise tLt ord_tup mem_rise)
def mdT : Tch × Int → D
  | (.ask, v) => markA v | (.read x, v) => markR x v | (.wrt x _, v) => markW x v | (.say _, v) => markS v
def wOf (x : Str) : List (Tch × Int) → Option Int
  | [] => none
  | q :: r => match wOf x r with
    | some v => some v
    | none => match q.1 with
      | .wrt y v => if x = y then some v else none
      | _ => none
def saidOf : List (Tch × Int) → List Int
  | [] => []
  | q :: r => (match q.1 with
    | .say v => [v]
    | _ => []) ++ saidOf r
def nAsk : List (Tch × Int) → Nat
  | [] => 0
  | q :: r => (match q.1 with
    | .ask => 1
    | _ => 0) + nAsk r
def app (ms : List (Tch × Int)) (s : Stt) : Stt := ⟨fun x => (wOf x ms).getD (s.kept x), s.asked, s.many + nAsk ms, s.spoken ++ saidOf ms, s.marks ++ ms.map mdT, s.cells⟩
def Pg.tl {α : Type} : Pg α → Stt → List (Tch × Int)
  | .ret _, _ => []
  | .act m k, s => (m, (actT m s).1) :: (k (actT m s).1).tl (actT m s).2
structure Agr (A : Mk → Prop) (s t : Stt) : Prop where
  rd : ∀ x, A (mR x) → s.kept x = t.kept x
  ak : A mA → ∀ k, aw s.asked (s.many + k) = aw t.asked (t.many + k)
theorem Agr.act {A : Mk → Prop} {s t : Stt} (h : Agr A s t) {m : Tch} (hm : A (mkT m)) : (actT m s).1 = (actT m t).1 ∧ Agr A (actT m s).2 (actT m t).2 := by
  cases m with
  | ask =>
    refine ⟨h.ak hm 0, h.rd, fun a k => ?_⟩
    have := h.ak a (1 + k)
    rw [← Nat.add_assoc, ← Nat.add_assoc] at this
    exact this
  | read x => exact ⟨h.rd x hm, h.rd, h.ak⟩
  | wrt x v =>
    refine ⟨rfl, fun y hy => ?_, h.ak⟩
    show (if y = x then v else s.kept y) = if y = x then v else t.kept y
    rw [h.rd y hy]
  | say v => exact ⟨rfl, h.rd, h.ak⟩
theorem Agr.go {α : Type} {A : Mk → Prop} : ∀ {p : Pg α} {s t : Stt}, p.In A → Agr A s t → (p.go s).1 = (p.go t).1 ∧ p.tl s = p.tl t
  | .ret _, s, t, _, _ => ⟨rfl, rfl⟩
  | .act m k, s, t, h, g => by
    obtain ⟨e, g2⟩ := g.act h.1
    obtain ⟨i1, i2⟩ := Agr.go (p := k (actT m s).1) (h.2 _) g2
    show ((k (actT m s).1).go (actT m s).2).1 = ((k (actT m t).1).go (actT m t).2).1 ∧ (m, (actT m s).1) :: _ = (m, (actT m t).1) :: _
    rw [← e]
    exact ⟨i1, by rw [i2]⟩
theorem wOf_some {x : Str} {v : Int} : ∀ {ms : List (Tch × Int)}, wOf x ms = some v → ∃ q ∈ ms, q.1 = .wrt x v
  | [], h => by simp [wOf] at h
  | q :: r, h => by
    simp only [wOf] at h
    cases e : wOf x r with
    | some u =>
      rw [e] at h
      cases h
      obtain ⟨z, hz, e⟩ := wOf_some e
      exact ⟨z, List.mem_cons_of_mem _ hz, e⟩
    | none =>
      rw [e] at h
      cases e2 : q.1 with
      | wrt y u =>
        rw [e2] at h
        by_cases q2 : x = y
        · subst q2
          simp at h
          exact ⟨q, List.mem_cons_self, by rw [e2, h]⟩
        · simp [q2] at h
      | ask => rw [e2] at h; cases h
      | read y => rw [e2] at h; cases h
      | say y => rw [e2] at h; cases h
section
variable {A B : Mk → Prop}
def Ins (A : Mk → Prop) (ms : List (Tch × Int)) : Prop := ∀ q ∈ ms, A (mkT q.1)
theorem Ins.w {ms : List (Tch × Int)} (h : Ins A ms) {x : Str} (hx : ¬ A (mW x)) : wOf x ms = none := by
  cases e : wOf x ms with
  | none => rfl
  | some v =>
    obtain ⟨q, hq, e2⟩ := wOf_some e
    have := h q hq
    rw [e2] at this
    exact absurd this hx
theorem Ins.s {ms : List (Tch × Int)} (h : Ins A ms) (hx : ¬ A mS) : saidOf ms = [] := by
  induction ms with
  | nil => rfl
  | cons q r ih =>
    have h1 := h q List.mem_cons_self
    unfold saidOf
    rw [ih fun z hz => h z (List.mem_cons_of_mem _ hz)]
    cases e : q.1 with
    | say v => rw [e] at h1; exact absurd h1 hx
    | ask => rfl
    | read y => rfl
    | wrt y u => rfl
theorem Ins.a {ms : List (Tch × Int)} (h : Ins A ms) (hx : ¬ A mA) : nAsk ms = 0 := by
  induction ms with
  | nil => rfl
  | cons q r ih =>
    have h1 := h q List.mem_cons_self
    unfold nAsk
    rw [ih fun z hz => h z (List.mem_cons_of_mem _ hz)]
    cases e : q.1 with
    | ask => rw [e] at h1; exact absurd h1 hx
    | say v => rfl
    | read y => rfl
    | wrt y u => rfl
def Stt.er (s : Stt) : Stt := ⟨s.kept, s.asked, s.many, s.spoken, [], []⟩
theorem er_ext {s t : Stt} (h1 : ∀ x, s.kept x = t.kept x) (h2 : s.asked = t.asked) (h3 : s.many = t.many) (h4 : s.spoken = t.spoken) : s.er = t.er := by
  unfold Stt.er
  rw [funext h1, h2, h3, h4]
structure Apt (A B : Mk → Prop) : Prop where
  w : ∀ x, A (mW x) → ¬ B (mR x) ∧ ¬ B (mW x)
  r : ∀ x, B (mW x) → ¬ A (mR x)
  s : ¬ (A mS ∧ B mS)
  a : ¬ (A mA ∧ B mA)
theorem Apt.symm (h : Apt A B) : Apt B A := ⟨fun x hb => ⟨h.r x hb, fun ha => (h.w x ha).2 hb⟩, fun x ha => (h.w x ha).1, fun q => h.s ⟨q.2, q.1⟩, fun q => h.a ⟨q.2, q.1⟩⟩
theorem Apt.swap (h : Apt A B) {ms ns : List (Tch × Int)} (hm : Ins A ms) (hn : Ins B ns) (s : Stt) : (app ns (app ms s)).er = (app ms (app ns s)).er := by
  refine er_ext (fun x => ?_) rfl ?_ ?_
  · simp only [app]
    by_cases ha : A (mW x)
    · have : wOf x ns = none := hn.w (h.w x ha).2
      simp only [this, Option.getD_none]
    · have : wOf x ms = none := hm.w ha
      simp only [this, Option.getD_none]
  · simp only [app]; omega
  · simp only [app]
    by_cases ha : A mS
    · have : saidOf ns = [] := hn.s fun hb => h.s ⟨ha, hb⟩
      simp [this]
    · have : saidOf ms = [] := hm.s ha
      simp [this]
variable {α β : Type} {p : Pg α} {q : Pg β}
end
end DL
namespace DL
open PySem
open KS (rise tLt sLt ord_tup ord_str mem_rise Rising)
def metM (m : Mk) (ys : List Mk) : Bool :=
  if m.headD ("" : Str) = ("say" : Str) ∨ m.headD ("" : Str) = ("ask" : Str) then decide (m ∈ ys)
  else if m.headD ("" : Str) = ("write" : Str) then decide (mR (m.getD 1 ("" : Str)) ∈ ys) || decide (mW (m.getD 1 ("" : Str)) ∈ ys)
  else decide (mW (m.getD 1 ("" : Str)) ∈ ys)
def clashM (xs ys : List Mk) : List Str := rise sLt ((xs.filter fun m => metM m ys).map fun m => m.getLastD ("" : Str))
section
end
theorem rise_nil {l : List Str} : rise sLt l = [] ↔ l = [] := by
  constructor
  · intro h
    rcases List.eq_nil_or_concat l with e | ⟨r, a, rfl⟩
    · exact e
    · exfalso
      have : a ∈ rise sLt (r ++ [a]) := (mem_rise ord_str).mpr (by simp)
      simp only [List.concat_eq_append] at h
      rw [h] at this
      cases this
  · rintro rfl; rfl
theorem clash_nil {xs ys : List Mk} : clashM xs ys = [] ↔ ∀ m ∈ xs, metM m ys = false := by
  unfold clashM
  rw [rise_nil, List.map_eq_nil_iff, List.filter_eq_nil_iff]
  simp
theorem met_say (ys : List Mk) : metM mS ys = decide (mS ∈ ys) := rfl
theorem met_ask (ys : List Mk) : metM mA ys = decide (mA ∈ ys) := rfl
theorem met_rd (x : Str) (ys : List Mk) : metM (mR x) ys = decide (mW x ∈ ys) := rfl
theorem met_wr (x : Str) (ys : List Mk) : metM (mW x) ys = (decide (mR x ∈ ys) || decide (mW x ∈ ys)) := rfl
theorem clash_apt {xs ys : List Mk} (h : clashM xs ys = []) : Apt (· ∈ xs) (· ∈ ys) := by
  rw [clash_nil] at h
  refine ⟨fun x hx => ?_, fun x hy hx => ?_, fun ⟨a, b⟩ => ?_, fun ⟨a, b⟩ => ?_⟩
  · have := h _ hx
    rw [met_wr] at this
    simpa using this
  · have := h _ hx
    rw [met_rd] at this
    exact of_decide_eq_false this hy
  · have := h _ a
    rw [met_say] at this
    exact of_decide_eq_false this b
  · have := h _ a
    rw [met_ask] at this
    exact of_decide_eq_false this b
end DL
namespace DL
open PySem
open KS (rise tLt sLt ord_tup ord_str mem_rise Rising)
section
end
end DL
namespace DL
open PySem
open KS (rise tLt sLt ord_tup ord_str mem_rise Rising)
def MkB (zs : List Str) (sa aa : Bool) (m : Mk) : Prop := (m = mS ∧ sa = true) ∨ (m = mA ∧ aa = true) ∨ ∃ x ∈ zs, m = mR x ∨ m = mW x
structure Small (zs : List Str) (sa aa : Bool) (k w : Nat) (d : Deed) : Prop where
  ok : okD [] [] d
  dp : dep d ≤ k
  w1 : ∀ (rw : List RW) (hw : Str → Int), wt rw hw d ≤ (w : Int)
  w0 : ∀ (rw : List RW) (hw : Str → Int), 0 ≤ wt rw hw d
  mm : ∀ R, ∀ m ∈ mkD R d, MkB zs sa aa m
theorem Small.up {zs : List Str} {sa aa : Bool} {k k' w w' : Nat} {d : Deed} (h : Small zs sa aa k w d) (hk : k ≤ k') (hw : w ≤ w') : Small zs sa aa k' w' d := ⟨h.ok, Nat.le_trans h.dp hk, fun rw hw' => by have := h.w1 rw hw'; omega, h.w0, h.mm⟩
section
end
end DL
namespace DL
open PySem
open KS (rise tLt sLt ord_tup ord_str mem_rise Rising)
section
end
section
variable {A B : Mk → Prop} {p q : Pg Int}
theorem Agr.trans {s t u : Stt} (h : Agr A s t) (g : Agr A t u) : Agr A s u := ⟨fun x hx => (h.rd x hx).trans (g.rd x hx), fun ha k => (h.ak ha k).trans (g.ak ha k)⟩
end
end DL
namespace DL
open PySem
open KS (rise tLt sLt ord_tup ord_str mem_rise Rising)
end DL
namespace DL
open PySem
open KS (rise tLt sLt ord_tup ord_str mem_rise Rising)
def ClsBy (xs ys : List Mk) (z : Str) : Prop :=
  (z = "say" ∧ mS ∈ xs ∧ mS ∈ ys) ∨ (z = "ask" ∧ mA ∈ xs ∧ mA ∈ ys) ∨ (mW z ∈ xs ∧ (mR z ∈ ys ∨ mW z ∈ ys)) ∨ (mR z ∈ xs ∧ mW z ∈ ys)
theorem ClsBy.symm {xs ys : List Mk} {z : Str} : ClsBy xs ys z → ClsBy ys xs z
  | .inl ⟨a, b, c⟩ => .inl ⟨a, c, b⟩
  | .inr (.inl ⟨a, b, c⟩) => .inr (.inl ⟨a, c, b⟩)
  | .inr (.inr (.inl ⟨a, .inl b⟩)) => .inr (.inr (.inr ⟨b, a⟩))
  | .inr (.inr (.inl ⟨a, .inr b⟩)) => .inr (.inr (.inl ⟨b, .inr a⟩))
  | .inr (.inr (.inr ⟨a, b⟩)) => .inr (.inr (.inl ⟨b, .inl a⟩))
end DL
namespace DL
open PySem
open KS (rise tLt sLt ord_tup ord_str mem_rise Rising)
def allMayM : List (List Mk) → Bool
  | [] => true
  | x :: r => r.all (fun y => decide (clashM x y = [])) && allMayM r
section
end
end DL
namespace DL
open PySem
open KS (rise tLt sLt ord_tup ord_str mem_rise Rising)
section
end
end DL
namespace DL
open PySem
theorem get_lt {α : Type} {l : List α} {j : Nat} {t : α} (h : l[j]? = some t) : j < l.length := by
  rcases Nat.lt_or_ge j l.length with q | q
  · exact q
  · rw [List.getElem?_eq_none q] at h; cases h
end DL
namespace DL
open PySem
open KS (rise tLt sLt ord_tup ord_str mem_rise Rising)
section
end
end DL
namespace DL
open PySem
open KS (rise tLt sLt ord_tup ord_str mem_rise Rising)
section
end
end DL
namespace DL
open PySem
open KS (rise tLt sLt ord_tup ord_str mem_rise Rising)
section
end
end DL
namespace DL
open PySem
open KS (rise tLt sLt ord_tup ord_str mem_rise Rising)
section
variable (P : Nat → Pg Int)
def Same (x y : List (Nat × Int) × Stt) : Prop := x.1.Perm y.1 ∧ x.2.er = y.2.er
theorem Same.trans {x y z : List (Nat × Int) × Stt} (h : Same x y) (k : Same y z) : Same x z := ⟨h.1.trans k.1, h.2.trans k.2⟩
variable {A : Nat → Mk → Prop} (hP : ∀ k, (P k).In (A k))
include hP
end
section
end
end DL
namespace DL
open PySem
open KS (rise tLt sLt ord_tup ord_str mem_rise Rising)
def sideZ (i : Nat) : List Str := ([["a", "b"], ["c"], ["d"]] : List (List Str)).getD i []
structure Side (p q : Nat) (ds : List Deed) : Prop where
  sm : ∀ i d, ds[i]? = some d → Small (sideZ i) (decide (i = p)) (decide (i = q)) 4 40 d
theorem side_apart {i j : Nat} (hi : i < 3) (hj : j < 3) (h : i ≠ j) : ∀ x ∈ sideZ i, x ∉ sideZ j := by
  have : ∀ i ∈ [0, 1, 2], ∀ j ∈ [0, 1, 2], i ≠ j → ∀ x ∈ sideZ i, x ∉ sideZ j := by decide +kernel
  exact this i (by simp; omega) j (by simp; omega) h
theorem mkb_rw {zs : List Str} {sa aa : Bool} {x : Str} : (MkB zs sa aa (mR x) → x ∈ zs) ∧ (MkB zs sa aa (mW x) → x ∈ zs) := by
  constructor
  · rintro (⟨e, _⟩ | ⟨e, _⟩ | ⟨y, hy, e | e⟩)
    · simp [mR, mS] at e
    · simp [mR, mA] at e
    · simp [mR] at e; rw [e]; exact hy
    · simp [mR, mW, nRW] at e
  · rintro (⟨e, _⟩ | ⟨e, _⟩ | ⟨y, hy, e | e⟩)
    · simp [mW, mS] at e
    · simp [mW, mA] at e
    · simp [mR, mW, nWR] at e
    · simp [mW] at e; rw [e]; exact hy
theorem mkb_s {zs : List Str} {sa aa : Bool} : (MkB zs sa aa mS → sa = true) ∧ (MkB zs sa aa mA → aa = true) := by
  constructor
  · rintro (⟨_, e⟩ | ⟨e, _⟩ | ⟨y, hy, e | e⟩)
    · exact e
    · have : mS ≠ mA := by decide +kernel
      exact absurd e this
    · simp [mR, mS] at e
    · simp [mW, mS] at e
  · rintro (⟨e, _⟩ | ⟨_, e⟩ | ⟨y, hy, e | e⟩)
    · have : mA ≠ mS := by decide +kernel
      exact absurd e this
    · exact e
    · simp [mR, mA] at e
    · simp [mW, mA] at e
section
variable {p q : Nat} {ds : List Deed} (S : Side p q ds) (hl : ds.length ≤ 3)
include S hl
theorem Side.apt (R : MR) {i j : Nat} {d e : Deed} (hd : ds[i]? = some d) (he : ds[j]? = some e) (h : i ≠ j) : Apt (· ∈ mkD R d) (· ∈ mkD R e) := by
  have a := (S.sm i d hd).mm R
  have b := (S.sm j e he).mm R
  have hi := get_lt hd
  have hj := get_lt he
  have ap := side_apart (i := i) (j := j) (by omega) (by omega) h
  refine ⟨fun x hx => ⟨fun r => ?_, fun r => ?_⟩, fun x hx r => ?_, fun ⟨x, y⟩ => ?_, fun ⟨x, y⟩ => ?_⟩
  · exact ap x (mkb_rw.2 (a _ hx)) (mkb_rw.1 (b _ r))
  · exact ap x (mkb_rw.2 (a _ hx)) (mkb_rw.2 (b _ r))
  · exact ap x (mkb_rw.1 (a _ r)) (mkb_rw.2 (b _ hx))
  · have := of_decide_eq_true (mkb_s.1 (a _ x)); have := of_decide_eq_true (mkb_s.1 (b _ y)); omega
  · have := of_decide_eq_true (mkb_s.2 (a _ x)); have := of_decide_eq_true (mkb_s.2 (b _ y)); omega
theorem Side.pw (R : MR) : ds.Pairwise (fun d e => Apt (· ∈ mkD R d) (· ∈ mkD R e)) := by
  rw [List.pairwise_iff_getElem]
  intro i j hi hj hij
  exact S.apt hl R (List.getElem?_eq_getElem hi) (List.getElem?_eq_getElem hj) (by omega)
omit hl in
theorem Side.ok (l : List Rule) : ∀ d ∈ ds, okD (szs l) [] d ∧ dep d ≤ 7 ∧ wt (rwt l) (fun _ => 1) d ≤ 1000 := fun d hd => by
  obtain ⟨i, hi, rfl⟩ := List.getElem_of_mem hd
  have sm := S.sm i _ (List.getElem?_eq_getElem hi)
  exact ⟨okD_mono (fun i p e => by simp at e) _ (fun x hx => hx) sm.ok, by have := sm.dp; omega, by have := sm.w1 (rwt l) (fun _ => 1); omega⟩
end
end DL
namespace DL
open PySem
open KS (rise tLt sLt ord_tup ord_str mem_rise Rising)
section
end
def everyM (hs : List Str) : List Mk := ([mA, mS] ++ hs.map mD) ++ abcd.flatMap fun x => [mR x, mW x]
section
end
end DL
namespace DL
open PySem
open KS (rise tLt ord_tup mem_rise Rising)
section
end
end DL
namespace DL
open PySem
open KS (rise tLt ord_tup mem_rise Rising)
section
end
section
section
end
end
end DL
namespace DL
open PySem
mutual
def sizD : Deed → Nat
  | .num _ => 1 | .nam _ => 1 | .dod _ => 1 | .ask => 1 | .rd _ => 1
  | .wr _ a => 1 + sizD a
  | .say a => 1 + sizD a
  | .lt _ a b => 1 + (sizD a + sizD b)
  | .own _ a b => 1 + (sizD a + sizD b)
  | .iff a b c => 1 + (sizD a + (sizD b + sizD c))
  | .two _ a b => 1 + (sizD a + sizD b)
  | .call _ ps hs => 1 + (sizDs ps + sizDs hs)
def sizDs : List Deed → Nat
  | [] => 0
  | d :: ds => sizD d + sizDs ds
end
section
variable {τ τ' : TEnv} {ω ω' : Om} {p q : ODen} {g : DL.TG} {u v w : OSDen} {c : ODenB} {t : T} {x : RT (TFl × Om)} {b : Bool}
theorem o_set {f : Str} (hp : p τ ω = .ok (t, ω')) (hl : ω'.length < 1000) (k : w τ (putFT f t ω') = x) : osSeq (osSet f p) w τ ω = x := by
  simp only [osSeq, osSet, hp, osE, if_pos hl, osN]
  exact k
theorem o_asg (hp : p τ ω = .ok (t, ω')) (hg : g t τ = some τ') (k : w τ' ω' = x) : osSeq (osAsg p g) w τ ω = x := by
  simp only [osSeq, osAsg, hp, osE, hg, osN]
  exact k
theorem o_skip (hc : c τ ω = .ok (false, ω')) (k : w τ ω' = x) : osSeq (osIf c u osNil) w τ ω = x := by
  simp only [osSeq, osIf, hc, osE, osNil, osN]
  exact k
theorem o_takeR (h0 : c τ ω = .ok (true, ω')) {ω2 : Om} (k : u τ ω' = .ok (.rt t, ω2)) : osSeq (osIf c u v) w τ ω = .ok (.rt t, ω2) := by
  simp only [osSeq, osIf, h0, osE, if_true, k, osN]
theorem o_ret (hp : p τ ω = .ok (t, ω')) : osRet p τ ω = .ok (.rt t, ω') := by simp only [osRet, hp, osE]
theorem o_run {pl np nN : Nat} {ts : List T} (hl : ts.length + 1 = np) (hp : pl ≤ ts.length) (h : u ((ts.take pl).map some ++ none :: (ts.drop pl).map some ++ List.replicate (nN - np) none) ω = .ok (.rt t, ω')) : orun pl np nN u ts ω = .ok (t, ω') := by
  unfold orun
  rw [if_pos ⟨hl, hp⟩, h]
end
def rdO (rs : List Rule) (left : Int) : Om := [("rules", encRsT rs), ("below", .int rs.length), ("left", .int left)]
theorem rd_fld {τ : TEnv} (rs : List Rule) (l : Int) : oFld "left" τ (rdO rs l) = .ok (.int l, rdO rs l) := rfl
theorem rd_fldB {τ : TEnv} (rs : List Rule) (l : Int) : oFld "below" τ (rdO rs l) = .ok (.int rs.length, rdO rs l) := rfl
theorem rd_fldR {τ : TEnv} (rs : List Rule) (l : Int) : oFld "rules" τ (rdO rs l) = .ok (encRsT rs, rdO rs l) := rfl
theorem rd_put (rs : List Rule) (l v : Int) : putFT "left" (.int v) (rdO rs l) = rdO rs v := rfl
theorem rd_len (rs : List Rule) (l : Int) : (rdO rs l).length < 1000 := by simp [rdO]
theorem rd_m1 (rs : List Rule) (l : Int) : (rdO rs l).lookup ("is_deed" : Str) = none := rfl
theorem rd_m2 (rs : List Rule) (l : Int) : (rdO rs l).lookup ("is_call" : Str) = none := rfl
theorem isd_head {c : CF → TFn} {o o2 : CF → OFn} {rs : List Rule} {l : Int} {w : Str} {ts : List T} {kn : T} {x : RT (TFl × Om)} (hl : 1 ≤ l) {rest : OSDen}
    (k : rest [none, some (.tup (.str w :: ts)), some kn, some (.str w), none, none] (rdO rs (l - 1)) = x) :
    osSeq (osSet "left" (oBin qSub (oFld "left") (up (tC (.int 1)))))
    (osSeq (osIf (obOr (oTest (oBin qLt (oFld "left") (up (tC (.int 0))))) (up (tbOr (tbNot (tTest (tIsi "tuple" (tVar 1)))) (tbOr (tTest (tBin qEq (tFn qLen (tCons (tVar 1) tNil)) (tC (.int 0)))) (tbNot (tTest (tIsi "str" (tBin qGet (tVar 1) (tC (.int 0)))))))))) (osRet (up (tC (.bl false)))) osNil)
    (osSeq (osAsg (up (tBin qGet (tVar 1) (tC (.int 0)))) (hN 3)) rest)) [none, some (.tup (.str w :: ts)), some kn, none, none, none] (rdO rs l) = x := by
  refine o_set (t := .int (l - 1)) (ω' := rdO rs l) ?_ (rd_len _ _) ?_
  · simp only [oBin, rd_fld, RT.bind_ok, up, te_C, q_subI]
  rw [rd_put]
  have h1 : L2.kitB "tuple" "tuple" = some true := by decide +kernel
  have h2 : L2.kitB "str" "str" = some true := by decide +kernel
  refine o_skip (ω' := rdO rs (l - 1)) ?_ ?_
  · have : ¬ (l - 1 < 0) := by omega
    have nz : ¬ ((ts.length : Int) + 1 = 0) := by omega
    simp [obOr, oTest, oBin, rd_fld, up, this, tIsi, tyT, h1, h2, nz]
  refine o_asg (t := .str w) (ω' := rdO rs (l - 1)) ?_ rfl k
  simp [up]
section
variable {c : CF → TFn} {o o2 : CF → OFn}
theorem w_names : ∀ x ∈ (["x", "y", "x1", "z"] : List Str), trun 2 3 (ct_f_is_word c o o2) [.str x, .str "xyz"] = .ok (.bl true) := fun x hx => by
  simp only [List.mem_cons, List.not_mem_nil, or_false] at hx
  rcases hx with rfl | rfl | rfl | rfl <;> rfl
theorem w_owns : ∀ x ∈ (["p", "q", "p1"] : List Str), trun 2 3 (ct_f_is_word c o o2) [.str x, .str "pq"] = .ok (.bl true) := fun x hx => by
  simp only [List.mem_cons, List.not_mem_nil, or_false] at hx
  rcases hx with rfl | rfl | rfl <;> rfl
theorem w_handed : ∀ x ∈ (["f", "g1", "g"] : List Str), trun 2 3 (ct_f_is_word c o o2) [.str x, .str "fg"] = .ok (.bl true) := fun x hx => by
  simp only [List.mem_cons, List.not_mem_nil, or_false] at hx
  rcases hx with rfl | rfl | rfl <;> rfl
theorem w_abcd : ∀ x ∈ abcd, trun 2 3 (ct_f_is_word c o o2) [.str x, .str "pq"] = .ok (.bl false) := fun x hx => by
  simp only [abcd, List.mem_cons, List.not_mem_nil, or_false] at hx
  rcases hx with rfl | rfl | rfl | rfl <;> rfl
end
theorem kd_1 {x : Str} (h : kd x = 1) : x ∈ (["x", "y", "x1", "z"] : List Str) := by
  unfold kd at h
  split at h
  · assumption
  · split at h
    · omega
    · split at h <;> omega
theorem kd_2 {x : Str} (h : kd x = 2) : x ∈ (["p", "q", "p1"] : List Str) := by
  unfold kd at h
  split at h
  · omega
  · split at h
    · assumption
    · split at h <;> omega
theorem kd_3 {x : Str} (h : kd x = 3) : x ∈ (["f", "g1", "g"] : List Str) := by
  unfold kd at h
  split at h
  · omega
  · split at h
    · omega
    · split at h
      · assumption
      · omega
theorem isword_T {n : Nat} {x : Str} (hn : 2 ≤ n) : (kd x = 1 → tv (csem n .f_is_word) [.str x, .str "xyz"] = .ok (.bl true)) ∧ (kd x = 2 → tv (csem n .f_is_word) [.str x, .str "pq"] = .ok (.bl true)) ∧ (kd x = 3 → tv (csem n .f_is_word) [.str x, .str "fg"] = .ok (.bl true)) ∧ (x ∈ abcd → tv (csem n .f_is_word) [.str x, .str "pq"] = .ok (.bl false)) := by
  obtain ⟨n, rfl⟩ : ∃ j, n = j + 2 := ⟨n - 2, by omega⟩
  exact ⟨fun h => cq_f_is_word (w_names x (kd_1 h)) (by simp), fun h => cq_f_is_word (w_owns x (kd_2 h)) (by simp), fun h => cq_f_is_word (w_handed x (kd_3 h)) (by simp), fun h => cq_f_is_word (w_abcd x h) (by simp)⟩
def knT (ks : List Str) : T := .lst (ks.map .str)
open Classical in
theorem kn_in {x : Str} {ks : List Str} (hx : x ∈ ks) (hs : ∀ y ∈ ks, sok y = true) : qIn (.str x) (knT ks) = .ok (.bl true) := by
  have := qIn_fine (t := .str x) (u := knT ks) (us := ks.map .str) (.str 38 (hs x hx)) (.all fun t ht => by obtain ⟨y, hy, rfl⟩ := List.mem_map.mp ht; exact .str 37 (hs y hy)) (.inl rfl)
  rw [this, decide_eq_true (List.mem_map.mpr ⟨x, hx, rfl⟩)]
theorem isshelf_T {n : Nat} {x : Str} {ks : List Str} (hn : 3 ≤ n) (h : (x ∈ ks ∧ kd x = 2) ∨ x ∈ abcd) (hs : ∀ y ∈ ks, sok y = true) : tv (csem n .f_is_shelf) [.str x, knT ks] = .ok (.bl true) := by
  obtain ⟨n, rfl⟩ : ∃ j, n = j + 2 := ⟨n - 2, by omega⟩
  refine cq_f_is_shelf (n := n) ?_ (by simp)
  obtain ⟨_, w2, _, w4⟩ := isword_T (n := n + 1) (x := x) (by omega)
  refine t_run rfl ?_
  unfold ct_f_is_shelf
  rcases h with ⟨h, k2⟩ | h
  · have w := w2 k2
    simp [tsSeq, tsIf, w, tsE, tsRet, tsN, kn_in h hs]
  · have w := w4 h
    have t1 : L2.kitB "str" "str" = some true := by decide +kernel
    refine t_skip (by simp [w]) ?_
    refine t_ret ?_
    simp only [abcd, List.mem_cons, List.not_mem_nil, or_false] at h
    rcases h with rfl | rfl | rfl | rfl <;> rfl
theorem isnum_T {n : Nat} {i : Int} (hn : 2 ≤ n) (h : 0 ≤ i ∧ i ≤ 1008) : tv (csem n .f_is_number) [.int i] = .ok (.bl true) := by
  obtain ⟨n, rfl⟩ : ∃ j, n = j + 2 := ⟨n - 2, by omega⟩
  refine cq_f_is_number (n := n) ?_ (by simp)
  have h1 : L2.kitB "int" "int" = some true := by decide +kernel
  have h2 : L2.kitB "int" "bool" = some false := by decide +kernel
  refine t_run rfl ?_
  unfold ct_f_is_number
  refine t_ret ?_
  simp [tAndV, tNotV, tIsi, tyT, h1, h2, tChain, decide_eq_true h.1]
  omega
theorem isleaf_T {n : Nat} {d : Deed} {sz : List (Nat × Nat)} {K ks : List Str} (hn : 5 ≤ n) (h0 : (∃ i, d = .num i) ∨ (∃ x, d = .nam x) ∨ (∃ x, d = .rd x) ∨ (∃ x, d = .dod x) ∨ d = .ask) (h : okD sz K d) (hk : ∀ x ∈ K, x ∈ ks) (hs : ∀ y ∈ ks, sok y = true) :
    tv (csem n .f_is_leaf) [encT d, knT ks] = .ok (.bl true) := by
  obtain ⟨n, rfl⟩ : ∃ j, n = j + 2 := ⟨n - 2, by omega⟩
  refine cq_f_is_leaf (n := n) ?_ (by simp)
  refine t_run rfl ?_
  unfold ct_f_is_leaf
  have nq : ∀ {a b : Str}, decide (a = b) = false → ¬ a = b := fun h => of_decide_eq_false h
  rcases h0 with ⟨i, rfl⟩ | ⟨x, rfl⟩ | ⟨x, rfl⟩ | ⟨x, rfl⟩ | rfl
  · have e1 : ¬ (("number" : Str) = "ask") := by decide +kernel
    refine t_skip (by simp [encT, e1]) ?_
    refine t_skip (by simp [encT]) ?_
    refine t_seqR (t_if (b := true) (by simp [encT]) ?_)
    exact t_ret (by simp [encT, isnum_T (n := n + 1) (by omega) h])
  · have e1 : ¬ (("name" : Str) = "ask") := by decide +kernel
    have e2 : ¬ (("name" : Str) = "number") := by decide +kernel
    have e3 : ¬ (("name" : Str) = "read") := by decide +kernel
    refine t_skip (by simp [encT, e1]) ?_
    refine t_skip (by simp [encT]) ?_
    refine t_skip (by simp [encT, e2]) ?_
    refine t_skip (by simp [encT, e3]) ?_
    refine t_ret ?_
    have w := (isword_T (n := n + 1) (x := x) (by omega)).1 h.2
    have dd : ∀ τ : TEnv, tDisp [((tC (.str "name")), (tC (.str "xyz"))), ((tC (.str "do")), (tC (.str "fg")))] τ = .ok (.dct [(.inr "name", .str "xyz"), (.inr "do", .str "fg")]) := fun τ => rfl
    have gg : qGet (.dct [(.inr "name", .str "xyz"), (.inr "do", .str "fg")]) (.str "name") = .ok (.str "xyz") := by rfl
    simp [encT, tAndV, dd, gg, w, kn_in (hk x h.1) hs]
  · have e1 : ¬ (("read" : Str) = "ask") := by decide +kernel
    have e2 : ¬ (("read" : Str) = "number") := by decide +kernel
    refine t_skip (by simp [encT, e1]) ?_
    refine t_skip (by simp [encT]) ?_
    refine t_skip (by simp [encT, e2]) ?_
    refine t_seqR (t_if (b := true) (by simp [encT]) ?_)
    have w := isshelf_T (n := n + 1) (x := x) (by omega) (h.imp (fun q => ⟨hk x q.1, q.2⟩) id) hs
    exact t_ret (by simp [encT, w])
  · have e1 : ¬ (("do" : Str) = "ask") := by decide +kernel
    have e2 : ¬ (("do" : Str) = "number") := by decide +kernel
    have e3 : ¬ (("do" : Str) = "read") := by decide +kernel
    refine t_skip (by simp [encT, e1]) ?_
    refine t_skip (by simp [encT]) ?_
    refine t_skip (by simp [encT, e2]) ?_
    refine t_skip (by simp [encT, e3]) ?_
    refine t_ret ?_
    have w := (isword_T (n := n + 1) (x := x) (by omega)).2.2.1 h.2
    have dd : ∀ τ : TEnv, tDisp [((tC (.str "name")), (tC (.str "xyz"))), ((tC (.str "do")), (tC (.str "fg")))] τ = .ok (.dct [(.inr "name", .str "xyz"), (.inr "do", .str "fg")]) := fun τ => rfl
    have gg : qGet (.dct [(.inr "name", .str "xyz"), (.inr "do", .str "fg")]) (.str "do") = .ok (.str "fg") := by rfl
    simp [encT, tAndV, dd, gg, w, kn_in (hk x h.1) hs]
  · refine t_seqR (t_if (b := true) (by simp [encT]) ?_)
    exact t_ret (by simp [encT])
end DL
namespace DL
open PySem
section
variable {τ : TEnv} {ω ω' : Om} {q : ODenA} {f : OFn} {ts : List T} {t : T}
theorem o_meth {nm : Str} {n : Nat} {r : RT (T × Om)} (hl : ω.lookup nm = none) (hq : q τ ω = .ok (ts, ω)) (hn : ts.length + 1 = n) (hf : f ts ω = r) : oMeth nm n f q τ ω = r := by
  simp only [oMeth, hl, if_true, hq, RT.bind_ok, hn]
  exact hf
theorem o_and {p q : ODen} {r : RT (T × Om)} (hp : p τ ω = .ok (.bl true, ω')) (hq : q τ ω' = r) : oAndV p q τ ω = r := by
  simp only [oAndV, hp, RT.bind_ok]
  exact hq
theorem o_all {it : TIt} {vs : List Nat} {e : ODen} {k : Nat} {us : List T} {ω2 : Om} (hi : it τ = .ok us) (h : olcI (hN k) tYes e vs τ us [] ω = .ok (List.replicate us.length (.bl true), ω2)) : oFn qAll (oCons (oLc it (hN k) tYes e vs) (up tNil)) τ ω = .ok (.bl true, ω2) := by
  have h2 : qAll [.lst (List.replicate us.length (.bl true))] = .ok (.bl true) := by
    have : fall blT (List.replicate us.length (T.bl true)) = some (List.replicate us.length true) := by
      generalize us.length = m
      induction m with
      | zero => rfl
      | succ m ih => rw [List.replicate_succ, List.replicate_succ]; exact L2_fall ih
    simp only [qAll, qLstF, one1, litsT, this]
    congr 2
    generalize us.length = m
    induction m with
    | zero => rfl
    | succ m ih => rw [List.replicate_succ, List.all_cons, ih]; rfl
  simp only [oFn, oCons, oLc, hi, RT.bind_ok, h, up, te_nil, h2]
where L2_fall {l : List T} {m : List Bool} (h : fall blT l = some m) : fall blT (T.bl true :: l) = some (true :: m) := by simp only [fall, blT, h]
end
theorem i_rules {rs : List Rule} {i : Nat} {r : Rule} (h : rs[i]? = some r) : qGet (encRsT rs) (.int i) = .ok (encRT r) := by
  have hi := (List.getElem?_eq_some_iff.mp h).1
  unfold encRsT
  rw [q_getT, atI_in (by omega) (by simpa using hi)]
  simp [h]
theorem cut1 {a : T} {ts : List T} : cutT (a :: ts) (some 1) none = ts := cut_hi (k := 1)
def leafW : List Str := ["number", "name", "read", "do", "ask"]
theorem in_leafW {w : Str} (h : w ∈ leafW) : qIn (.str w) (.tup [.str "number", .str "name", .str "read", .str "do", .str "ask"]) = .ok (.bl true) := by
  simp only [leafW, List.mem_cons, List.not_mem_nil, or_false] at h
  rcases h with rfl | rfl | rfl | rfl | rfl <;> rfl
section
variable {rs : List Rule}
theorem isD_leaf {d : Deed} {K ks : List Str} {n : Nat} {l : Int} (h0 : (∃ i, d = .num i) ∨ (∃ x, d = .nam x) ∨ (∃ x, d = .rd x) ∨ (∃ x, d = .dod x) ∨ d = .ask) (h : okD (szs rs) K d) (hk : ∀ x ∈ K, x ∈ ks) (hs : ∀ y ∈ ks, sok y = true) (hz : (sizD d : Int) ≤ l) (hn : 3 * dep d + 10 ≤ n) (h1 : sizD d = 1)
    (he : ∃ w ts, encT d = .tup (.str w :: ts) ∧ w ∈ leafW) : ov (csem n) .m_Reader_is_deed [encT d, knT ks] (rdO rs l) = .ok (.bl true, rdO rs (l - sizD d)) := by
  obtain ⟨m, rfl⟩ : ∃ j, n = j + 2 := ⟨n - 2, by omega⟩
  obtain ⟨w, ts, e, hw⟩ := he
  have lf := isleaf_T (n := m + 1) (ks := ks) (by omega) h0 h hk hs
  rw [h1] at hz ⊢
  rw [e] at lf ⊢
  refine oq_m_Reader_is_deed (n := m) ?_ (by simp)
  refine o_run rfl (by simp) ?_
  unfold ot_m_Reader_is_deed
  refine isd_head (c := fun g => tv (csem (m + 1) g)) (o := ov (csem (m + 1))) (o2 := ov (csem m)) (by omega) ?_
  refine o_takeR (ω' := rdO rs (l - 1)) ?_ ?_
  · simp [up, in_leafW hw]
  · refine o_ret ?_
    simp [up, lf]
theorem nin_leafW {w : Str} (h : w ∈ (["write", "say", "let", "own", "if", "then", "add", "less", "loop", "call"] : List Str)) : qIn (.str w) (.tup [.str "number", .str "name", .str "read", .str "do", .str "ask"]) = .ok (.bl false) := by
  simp only [List.mem_cons, List.not_mem_nil, or_false] at h
  rcases h with rfl | rfl | rfl | rfl | rfl | rfl | rfl | rfl | rfl | rfl <;> rfl
theorem in_lo {w : Str} (h : w ∈ (["let", "own"] : List Str)) : qIn (.str w) (.tup [.str "let", .str "own"]) = .ok (.bl true) := by
  simp only [List.mem_cons, List.not_mem_nil, or_false] at h
  rcases h with rfl | rfl <;> rfl
theorem nin_lo {w : Str} (h : w ∈ (["say", "if", "then", "add", "less", "loop"] : List Str)) : qIn (.str w) (.tup [.str "let", .str "own"]) = .ok (.bl false) := by
  simp only [List.mem_cons, List.not_mem_nil, or_false] at h
  rcases h with rfl | rfl | rfl | rfl | rfl | rfl <;> rfl
theorem ncall {w : Str} (h : w ∈ (["write", "say", "let", "own", "if", "then", "add", "less", "loop"] : List Str)) : ¬ w = "call" := by
  have : ∀ w ∈ (["write", "say", "let", "own", "if", "then", "add", "less", "loop"] : List Str), ¬ w = "call" := by decide +kernel
  exact this w h
theorem nwrite {w : Str} (h : w ∈ (["say", "let", "own", "if", "then", "add", "less", "loop"] : List Str)) : ¬ w = "write" := by
  have : ∀ w ∈ (["say", "let", "own", "if", "then", "add", "less", "loop"] : List Str), ¬ w = "write" := by decide +kernel
  exact this w h
theorem isD_parts {w : Str} {ts : List T} {ks : List Str} {n : Nat} {l : Int} {ω2 : Om} (hw : w ∈ (["say", "if", "then", "add", "less", "loop"] : List Str)) (hl : 1 ≤ l)
    (hsz : qNe (.int (ts.length + 1)) (.int (if w = "say" then 2 else if w = "if" then 4 else 3)) = .ok (.bl false))
    (hp : olcI (hN 5) tYes (oMeth "is_deed" 3 (ov (csem (n + 1)) .m_Reader_is_deed) (up (tCons (tVar 5) (tCons (tVar 2) tNil)))) [5] [none, some (.tup (.str w :: ts)), some (knT ks), some (.str w), some (.dct [(.inr "add", .int 3), (.inr "less", .int 3), (.inr "then", .int 3), (.inr "loop", .int 3), (.inr "if", .int 4), (.inr "say", .int 2)]), none] ts [] (rdO rs (l - 1)) = .ok (List.replicate ts.length (.bl true), ω2)) :
    ov (csem (n + 2)) .m_Reader_is_deed [.tup (.str w :: ts), knT ks] (rdO rs l) = .ok (.bl true, ω2) := by
  refine oq_m_Reader_is_deed (n := n) ?_ (by simp)
  refine o_run rfl (by simp) ?_
  unfold ot_m_Reader_is_deed
  refine isd_head (c := fun g => tv (csem (n + 1) g)) (o := ov (csem (n + 1))) (o2 := ov (csem n)) hl ?_
  have m1 : w ∈ (["write", "say", "let", "own", "if", "then", "add", "less", "loop", "call"] : List Str) := by
    simp only [List.mem_cons, List.not_mem_nil, or_false] at hw ⊢
    rcases hw with h | h | h | h | h | h <;> simp [h]
  have m2 : w ∈ (["write", "say", "let", "own", "if", "then", "add", "less", "loop"] : List Str) := by
    simp only [List.mem_cons, List.not_mem_nil, or_false] at hw ⊢
    rcases hw with h | h | h | h | h | h <;> simp [h]
  have m3 : w ∈ (["say", "let", "own", "if", "then", "add", "less", "loop"] : List Str) := by
    simp only [List.mem_cons, List.not_mem_nil, or_false] at hw ⊢
    rcases hw with h | h | h | h | h | h <;> simp [h]
  refine o_skip (ω' := rdO rs (l - 1)) (by simp [up, nin_leafW m1]) ?_
  refine o_skip (ω' := rdO rs (l - 1)) (by simp [up, ncall m2]) ?_
  refine o_skip (ω' := rdO rs (l - 1)) (by simp [up, nwrite m3]) ?_
  refine o_skip (ω' := rdO rs (l - 1)) (by simp [up, nin_lo hw]) ?_
  refine o_asg (t := .dct [(.inr "add", .int 3), (.inr "less", .int 3), (.inr "then", .int 3), (.inr "loop", .int 3), (.inr "if", .int 4), (.inr "say", .int 2)]) (ω' := rdO rs (l - 1)) rfl rfl ?_
  have gg : tGet2 (tVar 4) (tVar 3) (tC (.int 0)) [none, some (.tup (.str w :: ts)), some (knT ks), some (.str w), some (.dct [(.inr "add", .int 3), (.inr "less", .int 3), (.inr "then", .int 3), (.inr "loop", .int 3), (.inr "if", .int 4), (.inr "say", .int 2)]), none] = .ok (.int (if w = "say" then 2 else if w = "if" then 4 else 3)) := by
    simp only [List.mem_cons, List.not_mem_nil, or_false] at hw
    rcases hw with rfl | rfl | rfl | rfl | rfl | rfl <;> rfl
  refine o_skip (ω' := rdO rs (l - 1)) ?_ ?_
  · show up (tTest (tBin qNe (tFn qLen (tCons (tVar 1) tNil)) (tGet2 (tVar 4) (tVar 3) (tC (.int 0))))) [none, some (.tup (.str w :: ts)), some (knT ks), some (.str w), some (.dct [(.inr "add", .int 3), (.inr "less", .int 3), (.inr "then", .int 3), (.inr "loop", .int 3), (.inr "if", .int 4), (.inr "say", .int 2)]), none] _ = _
    simp [up, gg, hsz]
  refine o_ret ?_
  refine o_all (us := ts) (ti_any (l := .tup ts) (by simp [cut1]) (.inr (.inl rfl))) ?_
  exact hp
theorem isD_bind {w x : Str} {a b : T} {L : Str} {ks : List Str} {n : Nat} {l l1 l2 : Int} (hw : (w = "let" ∧ L = "xyz") ∨ (w = "own" ∧ L = "pq")) (hl : 1 ≤ l) (hx : tv (csem (n + 1) .f_is_word) [.str x, .str L] = .ok (.bl true)) (hks : ks.length ≤ 1000)
    (ha : ov (csem (n + 1)) .m_Reader_is_deed [a, knT ks] (rdO rs (l - 1)) = .ok (.bl true, rdO rs l1)) (hb : ov (csem (n + 1)) .m_Reader_is_deed [b, knT (ks ++ [x])] (rdO rs l1) = .ok (.bl true, rdO rs l2)) :
    ov (csem (n + 2)) .m_Reader_is_deed [.tup [.str w, .str x, a, b], knT ks] (rdO rs l) = .ok (.bl true, rdO rs l2) := by
  refine oq_m_Reader_is_deed (n := n) ?_ (by simp)
  refine o_run rfl (by simp) ?_
  unfold ot_m_Reader_is_deed
  refine isd_head (c := fun g => tv (csem (n + 1) g)) (o := ov (csem (n + 1))) (o2 := ov (csem n)) hl ?_
  have m0 : w ∈ (["let", "own"] : List Str) := by rcases hw with ⟨h, _⟩ | ⟨h, _⟩ <;> simp [h]
  have m1 : w ∈ (["write", "say", "let", "own", "if", "then", "add", "less", "loop", "call"] : List Str) := by rcases hw with ⟨h, _⟩ | ⟨h, _⟩ <;> simp [h]
  have m2 : w ∈ (["write", "say", "let", "own", "if", "then", "add", "less", "loop"] : List Str) := by rcases hw with ⟨h, _⟩ | ⟨h, _⟩ <;> simp [h]
  have m3 : w ∈ (["say", "let", "own", "if", "then", "add", "less", "loop"] : List Str) := by rcases hw with ⟨h, _⟩ | ⟨h, _⟩ <;> simp [h]
  refine o_skip (ω' := rdO rs (l - 1)) (by simp [up, nin_leafW m1]) ?_
  refine o_skip (ω' := rdO rs (l - 1)) (by simp [up, ncall m2]) ?_
  refine o_skip (ω' := rdO rs (l - 1)) (by simp [up, nwrite m3]) ?_
  refine o_takeR (ω' := rdO rs (l - 1)) (by simp [up, in_lo m0]) ?_
  have dd : ∀ τ : TEnv, tDisp [((tC (.str "let")), (tC (.str "xyz"))), ((tC (.str "own")), (tC (.str "pq")))] τ = .ok (.dct [(.inr "let", .str "xyz"), (.inr "own", .str "pq")]) := fun τ => rfl
  have gg : qGet (.dct [(.inr "let", .str "xyz"), (.inr "own", .str "pq")]) (.str w) = .ok (.str L) := by
    rcases hw with ⟨rfl, rfl⟩ | ⟨rfl, rfl⟩ <;> rfl
  refine o_skip (ω' := rdO rs (l - 1)) ?_ ?_
  · simp [up, dd, gg, hx]
  refine o_ret ?_
  refine o_and (ω' := rdO rs l1) ?_ ?_
  · refine o_meth (rd_m1 _ _) (ts := [a, knT ks]) ?_ rfl ha
    simp [up]
  · refine o_meth (rd_m1 _ _) (ts := [b, knT (ks ++ [x])]) ?_ rfl hb
    have ad : qAdd (knT ks) (.lst [.str x]) = .ok (knT (ks ++ [x])) := by
      unfold knT
      rw [q_addL, if_pos (okB_big (by simp; omega)), List.map_append]
      rfl
    simp [up, ad]
theorem isD_write {x : Str} {a : T} {ks : List Str} {n : Nat} {l l1 : Int} (hl : 1 ≤ l) (hx : tv (csem (n + 1) .f_is_shelf) [.str x, knT ks] = .ok (.bl true))
    (ha : ov (csem (n + 1)) .m_Reader_is_deed [a, knT ks] (rdO rs (l - 1)) = .ok (.bl true, rdO rs l1)) :
    ov (csem (n + 2)) .m_Reader_is_deed [.tup [.str "write", .str x, a], knT ks] (rdO rs l) = .ok (.bl true, rdO rs l1) := by
  refine oq_m_Reader_is_deed (n := n) ?_ (by simp)
  refine o_run rfl (by simp) ?_
  unfold ot_m_Reader_is_deed
  refine isd_head (c := fun g => tv (csem (n + 1) g)) (o := ov (csem (n + 1))) (o2 := ov (csem n)) hl ?_
  refine o_skip (ω' := rdO rs (l - 1)) (by simp [up, nin_leafW (w := "write") (by simp)]) ?_
  refine o_skip (ω' := rdO rs (l - 1)) (by simp [up, ncall (w := "write") (by simp)]) ?_
  refine o_takeR (ω' := rdO rs (l - 1)) (by simp [up]) ?_
  refine o_ret ?_
  refine o_and (ω' := rdO rs (l - 1)) (by simp [up]) ?_
  refine o_and (ω' := rdO rs (l - 1)) (by simp [up, hx]) ?_
  refine o_meth (rd_m1 _ _) (ts := [a, knT ks]) ?_ rfl ha
  simp [up]
theorem isD_call {i : Nat} {ps hs : List T} {r : Rule} {ks : List Str} {n : Nat} {l : Int} {ω2 : Om} (hn : 1 ≤ n) (hl : 1 ≤ l) (hr : rs[i]? = some r) (h2 : rs.length ≤ 1000) (hp : ps.length = r.ns.length) (hh : hs.length = r.hs.length) (hb : ps.length + hs.length ≤ 1000)
    (hall : olcI (hN 6) tYes (oMeth "is_deed" 3 (ov (csem (n + 1)) .m_Reader_is_deed) (up (tCons (tVar 6) (tCons (tVar 2) tNil)))) [6] [none, some (.tup [.str "call", .int i, .tup ps, .tup hs]), some (knT ks), some (tstrs r.ns), some (tstrs r.hs), some (encT r.b), none] (ps ++ hs) [] (rdO rs (l - 1)) = .ok (List.replicate (ps ++ hs).length (.bl true), ω2)) :
    ov (csem (n + 3)) .m_Reader_is_deed [.tup [.str "call", .int i, .tup ps, .tup hs], knT ks] (rdO rs l) = .ok (.bl true, ω2) := by
  have hi := (List.getElem?_eq_some_iff.mp hr).1
  have ic : ov (csem (n + 2)) .m_Reader_is_call [.tup [.str "call", .int i, .tup ps, .tup hs], knT ks] (rdO rs (l - 1)) = .ok (.bl true, ω2) := by
    refine oq_m_Reader_is_call (n := n) ?_ (by simp)
    refine o_run rfl (by simp) ?_
    unfold ot_m_Reader_is_call
    have num := isnum_T (n := n + 1) (i := i) (by omega) ⟨by omega, by omega⟩
    have t1 : L2.kitB "tuple" "tuple" = some true := by decide +kernel
    refine o_skip (ω' := rdO rs (l - 1)) ?_ ?_
    · have nge : ¬ ((rs.length : Int) ≤ i) := by omega
      simp [obOr, oTest, oBin, up, rd_fldB, num, nge]
    refine o_asg (t := encRT r) (ω' := rdO rs (l - 1)) ?_ rfl ?_
    · simp [oBin, up, rd_fldR, i_rules hr]
    refine o_skip (ω' := rdO rs (l - 1)) ?_ ?_
    · simp [up, tIsi, tyT, t1]
    refine o_skip (ω' := rdO rs (l - 1)) ?_ ?_
    · simp [up, tstrs, hp, hh]
    refine o_ret ?_
    refine o_all (us := ps ++ hs) (ti_any (l := .tup (ps ++ hs)) ?_ (.inr (.inl rfl))) hall
    have := okB_of hb
    simp [this]
  refine oq_m_Reader_is_deed (n := n + 1) ?_ (by simp)
  refine o_run rfl (by simp) ?_
  unfold ot_m_Reader_is_deed
  refine isd_head (c := fun g => tv (csem (n + 2) g)) (o := ov (csem (n + 2))) (o2 := ov (csem (n + 1))) hl ?_
  refine o_skip (ω' := rdO rs (l - 1)) (by simp [up, nin_leafW (w := "call") (by simp)]) ?_
  refine o_takeR (ω' := rdO rs (l - 1)) (by simp [up]) ?_
  refine o_ret ?_
  refine o_meth (rd_m2 _ _) (ts := [.tup [.str "call", .int i, .tup ps, .tup hs], knT ks]) ?_ rfl ic
  simp [up]
theorem olc_row {e : ODen} {k : Nat} {τ : TEnv} {f : List T → Om → RT (T × Om)} {kn : T} (he : ∀ t ω, e ((twipe τ [k]).set k (some t)) ω = if ω.lookup ("is_deed" : Str) = none then f [t, kn] ω else .bad) : ∀ (ds : List Deed) (acc : List T) (l : Int), acc.length + ds.length ≤ 100000 → (∀ ds1 d ds2, ds = ds1 ++ d :: ds2 → f [encT d, kn] (rdO rs (l - sizDs ds1)) = .ok (.bl true, rdO rs (l - sizDs ds1 - sizD d))) →
    olcI (hN k) tYes e [k] τ (ds.map encT) acc (rdO rs l) = .ok (acc ++ List.replicate ds.length (.bl true), rdO rs (l - sizDs ds))
  | [], acc, l, _, _ => by simp [olcI, sizDs]
  | d :: ds, acc, l, hb, h => by
    have h0 := h [] d ds rfl
    simp only [sizDs, Int.sub_zero, Int.natCast_zero] at h0
    have ih := olc_row he ds (acc ++ [.bl true]) (l - sizD d) (by simp at hb ⊢; omega) fun ds1 d' ds2 e => by
      have := h (d :: ds1) d' ds2 (by rw [e]; rfl)
      have a1 : (l - (sizDs (d :: ds1) : Int)) = l - sizD d - sizDs ds1 := by simp only [sizDs]; omega
      rw [a1] at this
      exact this
    simp only [List.map_cons, olcI, te_hN, te_yes, noXT, RT.bind_ok, if_true, he, rd_m1, h0]
    rw [if_pos (Nat.lt_of_lt_of_le (show acc.length < 100001 by simp at hb; omega) (by decide)), ih]
    simp [List.replicate_succ, sizDs]
    congr 1
    omega
theorem row6 {n : Nat} {τ3 τ4 τ5 : Option T} {d kn : T} (t : T) (ω : Om) : oMeth "is_deed" 3 (ov (csem (n + 1)) .m_Reader_is_deed) (up (tCons (tVar 6) (tCons (tVar 2) tNil))) ((twipe [none, some d, some kn, τ3, τ4, τ5, none] [6]).set 6 (some t)) ω = if ω.lookup ("is_deed" : Str) = none then ov (csem (n + 1)) .m_Reader_is_deed [t, kn] ω else .bad := by
  simp [oMeth, up, twipe]
theorem row5 {n : Nat} {τ3 τ4 : Option T} {d kn : T} (t : T) (ω : Om) : oMeth "is_deed" 3 (ov (csem (n + 1)) .m_Reader_is_deed) (up (tCons (tVar 5) (tCons (tVar 2) tNil))) ((twipe [none, some d, some kn, τ3, τ4, none] [5]).set 5 (some t)) ω = if ω.lookup ("is_deed" : Str) = none then ov (csem (n + 1)) .m_Reader_is_deed [t, kn] ω else .bad := by
  simp [oMeth, up, twipe]
theorem sizDs_app : ∀ (a b : List Deed), sizDs (a ++ b) = sizDs a + sizDs b
  | [], b => by simp [sizDs]
  | d :: a, b => by simp only [List.cons_append, sizDs, sizDs_app a b]; omega
theorem sizDs_mid {l ds1 ds2 : List Deed} {d : Deed} (e : l = ds1 ++ d :: ds2) : sizDs ds1 + sizD d ≤ sizDs l := by
  rw [e, sizDs_app]
  simp only [sizDs]
  omega
theorem known_more {K ks : List Str} {x : Str} (hk : ∀ y ∈ K, y ∈ ks) : ∀ y ∈ x :: K, y ∈ ks ++ [x] := fun y hy => by
  rcases List.mem_cons.mp hy with rfl | h
  · simp
  · simp [hk y h]
theorem sok_more {ks : List Str} {x : Str} (hs : ∀ y ∈ ks, sok y = true) (hx : sok x = true) : ∀ y ∈ ks ++ [x], sok y = true := fun y hy => by
  rcases List.mem_append.mp hy with h | h
  · exact hs y h
  · rw [List.mem_singleton.mp h]; exact hx
theorem szs_get {i a b : Nat} (h : (szs rs)[i]? = some (a, b)) : ∃ r, rs[i]? = some r ∧ a = r.ns.length ∧ b = r.hs.length := by
  unfold szs at h
  rw [List.getElem?_map] at h
  obtain ⟨r, h1, h2⟩ := Option.map_eq_some_iff.mp h
  injection h2 with h3 h4
  exact ⟨r, h1, h3.symm, h4.symm⟩
theorem isD_T (hrs : rs.length ≤ 1000) (hsz : ∀ r ∈ rs, r.ns.length ≤ 100 ∧ r.hs.length ≤ 100) : ∀ (d : Deed) {K ks : List Str} {n : Nat} {l : Int}, okD (szs rs) K d → (∀ x ∈ K, x ∈ ks) → (∀ y ∈ ks, sok y = true) → ks.length + dep d ≤ 1000 → (sizD d : Int) ≤ l → 3 * dep d + 10 ≤ n →
    ov (csem n) .m_Reader_is_deed [encT d, knT ks] (rdO rs l) = .ok (.bl true, rdO rs (l - sizD d)) := fun d => by
  have main : ∀ (m : Nat) (d : Deed), sizD d ≤ m → ∀ {K ks : List Str} {n : Nat} {l : Int}, okD (szs rs) K d → (∀ x ∈ K, x ∈ ks) → (∀ y ∈ ks, sok y = true) → ks.length + dep d ≤ 1000 → (sizD d : Int) ≤ l → 3 * dep d + 10 ≤ n →
      ov (csem n) .m_Reader_is_deed [encT d, knT ks] (rdO rs l) = .ok (.bl true, rdO rs (l - sizD d)) := by
    intro m
    induction m with
    | zero => intro d hd; cases d <;> simp only [sizD] at hd <;> omega
    | succ m ih =>
      intro d hm K ks n l h hk hs hb hz hn
      cases d with
      | num i => exact isD_leaf (.inl ⟨i, rfl⟩) h hk hs hz hn rfl ⟨_, _, rfl, by decide +kernel⟩
      | nam x => exact isD_leaf (.inr (.inl ⟨x, rfl⟩)) h hk hs hz hn rfl ⟨_, _, rfl, by decide +kernel⟩
      | rd x => exact isD_leaf (.inr (.inr (.inl ⟨x, rfl⟩))) h hk hs hz hn rfl ⟨_, _, rfl, by decide +kernel⟩
      | dod x => exact isD_leaf (.inr (.inr (.inr (.inl ⟨x, rfl⟩)))) h hk hs hz hn rfl ⟨_, _, rfl, by decide +kernel⟩
      | ask => exact isD_leaf (.inr (.inr (.inr (.inr rfl)))) h hk hs hz hn rfl ⟨_, _, rfl, by decide +kernel⟩
      | wr x a =>
        simp only [sizD, dep] at hm hb hz hn ⊢
        obtain ⟨n, rfl⟩ : ∃ j, n = j + 2 := ⟨n - 2, by omega⟩
        have ha := ih a (by omega) (n := n + 1) (l := l - 1) h.2 hk hs (by omega) (by omega) (by omega)
        have e : l - ((1 + sizD a : Nat) : Int) = l - 1 - sizD a := by omega
        rw [e]
        exact isD_write (by omega) (isshelf_T (by omega) (h.1.imp (fun q => ⟨hk x q.1, q.2⟩) id) hs) ha
      | say a =>
        simp only [sizD, dep] at hm hb hz hn ⊢
        obtain ⟨n, rfl⟩ : ∃ j, n = j + 2 := ⟨n - 2, by omega⟩
        have e : l - ((1 + sizD a : Nat) : Int) = l - 1 - sizDs [a] := by simp only [sizDs]; omega
        rw [e]
        refine isD_parts (w := "say") (ts := [encT a]) (by simp) (by omega) (by simp) ?_
        refine olc_row (f := ov (csem (n + 1)) .m_Reader_is_deed) (kn := knT ks) (fun t ω => row5 t ω) [a] [] (l - 1) (by simp) fun ds1 d ds2 q => ?_
        have hd : d = a ∧ sizDs ds1 + sizD d ≤ sizD a := by
          have := sizDs_mid q
          have hm : d ∈ [a] := by rw [q]; simp
          simp only [sizDs, List.mem_singleton] at this hm
          exact ⟨hm, by omega⟩
        obtain ⟨rfl, hle⟩ := hd
        exact ih d (by omega) h hk hs (by omega) (by omega) (by omega)
      | two w a b =>
        simp only [sizD, dep] at hm hb hz hn ⊢
        obtain ⟨n, rfl⟩ : ∃ j, n = j + 2 := ⟨n - 2, by omega⟩
        have e : l - ((1 + (sizD a + sizD b) : Nat) : Int) = l - 1 - sizDs [a, b] := by simp only [sizDs]; omega
        rw [e]
        have hw : w.w ∈ (["say", "if", "then", "add", "less", "loop"] : List Str) := by cases w <;> simp [Two.w]
        have ne : ∀ w : Two, ¬ w.w = "say" ∧ ¬ w.w = "if" := by intro w; cases w <;> decide +kernel
        refine isD_parts (w := w.w) (ts := [encT a, encT b]) hw (by omega) (by simp [ne w]) ?_
        refine olc_row (f := ov (csem (n + 1)) .m_Reader_is_deed) (kn := knT ks) (fun t ω => row5 t ω) [a, b] [] (l - 1) (by simp) fun ds1 d ds2 q => ?_
        have := sizDs_mid q
        have hm' : d ∈ [a, b] := by rw [q]; simp
        simp only [sizDs, List.mem_cons, List.not_mem_nil, or_false] at this hm'
        rcases hm' with rfl | rfl
        · exact ih d (by omega) h.1 hk hs (by omega) (by omega) (by omega)
        · exact ih d (by omega) h.2 hk hs (by omega) (by omega) (by omega)
      | iff a b c =>
        simp only [sizD, dep] at hm hb hz hn ⊢
        obtain ⟨n, rfl⟩ : ∃ j, n = j + 2 := ⟨n - 2, by omega⟩
        have e : l - ((1 + (sizD a + (sizD b + sizD c)) : Nat) : Int) = l - 1 - sizDs [a, b, c] := by simp only [sizDs]; omega
        rw [e]
        have ne : ¬ (("if" : Str) = "say") := by decide +kernel
        refine isD_parts (w := "if") (ts := [encT a, encT b, encT c]) (by simp) (by omega) (by simp [ne]) ?_
        refine olc_row (f := ov (csem (n + 1)) .m_Reader_is_deed) (kn := knT ks) (fun t ω => row5 t ω) [a, b, c] [] (l - 1) (by simp) fun ds1 d ds2 q => ?_
        have := sizDs_mid q
        have hm' : d ∈ [a, b, c] := by rw [q]; simp
        simp only [sizDs, List.mem_cons, List.not_mem_nil, or_false] at this hm'
        rcases hm' with rfl | rfl | rfl
        · exact ih d (by omega) h.1 hk hs (by omega) (by omega) (by omega)
        · exact ih d (by omega) h.2.1 hk hs (by omega) (by omega) (by omega)
        · exact ih d (by omega) h.2.2 hk hs (by omega) (by omega) (by omega)
      | lt x a b =>
        simp only [sizD, dep] at hm hb hz hn ⊢
        obtain ⟨n, rfl⟩ : ∃ j, n = j + 2 := ⟨n - 2, by omega⟩
        have ha := ih a (by omega) (n := n + 1) (l := l - 1) h.2.1 hk hs (by omega) (by omega) (by omega)
        have hb' := ih b (by omega) (n := n + 1) (ks := ks ++ [x]) (l := l - 1 - sizD a) h.2.2 (known_more hk) (sok_more hs (sok_1' h.1)) (by simp; omega) (by omega) (by omega)
        have e : l - ((1 + (sizD a + sizD b) : Nat) : Int) = l - 1 - sizD a - sizD b := by omega
        rw [e]
        exact isD_bind (L := "xyz") (.inl ⟨rfl, rfl⟩) (by omega) ((isword_T (by omega)).1 h.1) (by omega) ha hb'
      | own x a b =>
        simp only [sizD, dep] at hm hb hz hn ⊢
        obtain ⟨n, rfl⟩ : ∃ j, n = j + 2 := ⟨n - 2, by omega⟩
        have ha := ih a (by omega) (n := n + 1) (l := l - 1) h.2.1 hk hs (by omega) (by omega) (by omega)
        have hb' := ih b (by omega) (n := n + 1) (ks := ks ++ [x]) (l := l - 1 - sizD a) h.2.2 (known_more hk) (sok_more hs (sok_2' h.1)) (by simp; omega) (by omega) (by omega)
        have e : l - ((1 + (sizD a + sizD b) : Nat) : Int) = l - 1 - sizD a - sizD b := by omega
        rw [e]
        exact isD_bind (L := "pq") (.inr ⟨rfl, rfl⟩) (by omega) ((isword_T (by omega)).2.1 h.1) (by omega) ha hb'
      | call i ps hs' =>
        simp only [sizD, dep] at hm hb hz hn ⊢
        obtain ⟨n, rfl⟩ : ∃ j, n = j + 3 := ⟨n - 3, by omega⟩
        obtain ⟨r, hr, hp, hh⟩ := szs_get h.1
        have hz2 := hsz r (List.mem_of_getElem? hr)
        have e : l - ((1 + (sizDs ps + sizDs hs') : Nat) : Int) = l - 1 - sizDs (ps ++ hs') := by rw [sizDs_app]; omega
        rw [e]
        have ee : encTs ps ++ encTs hs' = (ps ++ hs').map encT := by rw [encTs_map, encTs_map, List.map_append]
        refine isD_call (r := r) (by omega) (by omega) hr hrs (by rw [encTs_map, List.length_map, hp]) (by rw [encTs_map, List.length_map, hh]) (by rw [encTs_map, encTs_map, List.length_map, List.length_map]; omega) ?_
        rw [ee, List.length_map]
        refine olc_row (f := ov (csem (n + 1)) .m_Reader_is_deed) (kn := knT ks) (fun t ω => row6 t ω) (ps ++ hs') [] (l - 1) (by simp; omega) fun ds1 d ds2 q => ?_
        have := sizDs_mid q
        rw [sizDs_app] at this
        have hm' : d ∈ ps ++ hs' := by rw [q]; simp
        have hok : okD (szs rs) K d ∧ dep d ≤ max (deps ps) (deps hs') := by
          rcases List.mem_append.mp hm' with z | z
          · exact ⟨okDs_iff.mp h.2.1 d z, Nat.le_trans (deps_mem z) (Nat.le_max_left _ _)⟩
          · exact ⟨okDs_iff.mp h.2.2 d z, Nat.le_trans (deps_mem z) (Nat.le_max_right _ _)⟩
        exact ih d (by omega) hok.1 hk hs (by omega) (by omega) (by omega)
  intro K ks n l
  exact main (sizD d) d (Nat.le_refl _)
end
theorem isInit_T {rs : List Rule} {n : Nat} {b : T} (hn : 2 ≤ n) (hb : b = .int rs.length) : ov (csem n) .m_Reader_init [encRsT rs, b] [] = .ok (.non, rdO rs 60) := by
  subst hb
  obtain ⟨n, rfl⟩ : ∃ j, n = j + 2 := ⟨n - 2, by omega⟩
  refine oq_m_Reader_init (n := n) ?_ (by simp)
  unfold orun ot_m_Reader_init
  rw [if_pos ⟨rfl, Nat.zero_le _⟩]
  simp [osSeq, osSet, up, osE, osN, putFT, rdO]
  rfl
theorem isdeed_T {rs : List Rule} {d : Deed} {n : Nat} (hrs : rs.length ≤ 1000) (hsz : ∀ r ∈ rs, r.ns.length ≤ 100 ∧ r.hs.length ≤ 100) (h : okD (szs rs) [] d) (hd : dep d ≤ 60) (hz : sizD d ≤ 60) (hn : 3 * dep d + 14 ≤ n) : tv (csem n .f_is_deed) [encRsT rs, encT d] = .ok (.bl true) := by
  obtain ⟨n, rfl⟩ : ∃ j, n = j + 2 := ⟨n - 2, by omega⟩
  refine cq_f_is_deed (n := n) ?_ (by simp)
  refine t_run rfl ?_
  unfold ct_f_is_deed
  refine t_ret ?_
  have i1 := isInit_T (rs := rs) (n := n) (b := .int rs.length) (by omega) rfl
  have i2 := isD_T hrs hsz d (K := []) (ks := []) (n := n + 1) (l := 60) h (by simp) (by simp) (by simp; omega) (by omega) (by omega)
  have len : qLen [encRsT rs] = .ok (.int rs.length) := by simp [encRsT]
  have i3 : knT [] = .lst [] := rfl
  rw [i3] at i2
  simp [tMakeMeth, len, i1, rd_m1, i2]
end DL
namespace DL
open PySem
open KS (rise tLt ord_tup mem_rise Rising)
section
end
section
end
end DL
namespace DL
open PySem
open KS (rise tLt ord_tup mem_rise Rising)
structure KGo (rs : List Rule) (KT : List (List Mk)) : Prop where
  len : KT.length = rs.length
  at_ : ∀ (i : Nat) (r : Rule) (K : List Mk), rs[i]? = some r → KT[i]? = some K → Rising tLt K ∧ ∀ m ∈ K, m ∈ everyM r.hs
section
variable {rs : List Rule} {KT : List (List Mk)}
theorem KGo.get (G : KGo rs KT) {i : Nat} {r : Rule} (h : rs[i]? = some r) : ∃ K, KT[i]? = some K ∧ Rising tLt K ∧ ∀ m ∈ K, m ∈ everyM r.hs := by
  have li : i < KT.length := by rw [G.len]; exact get_lt h
  exact ⟨KT[i], List.getElem?_eq_getElem li, G.at_ i r _ h (List.getElem?_eq_getElem li)⟩
section
end
end
section
end
end DL
namespace DL
open PySem
open KS (rise tLt ord_tup mem_rise Rising)
end DL
namespace DL
open PySem
open KS (rise tLt ord_tup mem_rise Rising)
section
end
section
end
end DL
namespace DL
open PySem
open KS (rise tLt ord_tup mem_rise Rising)
section
end
end DL
set_option maxHeartbeats 4000000
namespace DL
open PySem
open KS (rise tLt ord_tup mem_rise Rising)
section
end
end DL
set_option maxHeartbeats 1000000
namespace DL
open PySem
open KS (rise tLt ord_tup mem_rise Rising)
end DL
namespace DL
open PySem
open KS (rise tLt ord_tup mem_rise Rising)
abbrev lmOwnK : TSDen := tsIf (tbAnd (tTest (tBin qEq (tBin qGet (tVar 2) (tC (.int 0))) (tC (.str "own")))) (tTest (tBin qEq (tVar 6) (tC (.int 3))))) (tsAsg (tLc (tiAny (tVar 7)) (hN 5) (tTest (tBin qNe (tSl (tVar 5) (tPart (tC (.int 1))) tNoPart) (tTup (tCons (tBin qGet (tVar 2) (tC (.int 1))) tNil)))) (tVar 5) [5]) (hN 7)) tsNil
abbrev lmBodyK (F : List T → RT T) : TSDen := tsIf (tTest (tIsi "tuple" (tVar 4))) (tsSeq (tsAsg (tCall 3 F (tCons (tVar 0) (tCons (tVar 1) (tCons (tVar 4) tNil)))) (hN 7)) (tsSeq lmOwnK (tsAsg (tBin qAdd (tVar 3) (tVar 7)) (hN 3)))) tsNil
section
variable {F : List T → RT T} {A KT D : T} {f g : List Mk} {t : T} {z4 z5 z6 : Option T} {p : Deed} {k : Nat} {w : Str} {ts : List T}
theorem isi_TK {τ : TEnv} (h : τ[4]? = some (some t)) (ho : okTop t) : tTest (tIsi "tuple" (tVar 4)) τ = .ok (isTp t) := by
  show ((tIsi "tuple" (tVar 4)) τ).bind asB = _
  unfold tIsi
  rw [te_V h, RT.bind_ok, kit_top ho]
  rfl
theorem lm_skipK (ho : okTop t) (hp : isTp t = false) : lmBodyK F [some A, some KT, some D, some (lm f), some t, z4, z5, z6] = .ok (.nx [some A, some KT, some D, some (lm f), some t, z4, z5, z6]) :=
  t_if (b := false) (by rw [isi_TK rfl ho, hp]) rfl
theorem lm_partK (h : F [A, KT, encT p] = .ok (lm g)) (hg : f.length + g.length ≤ 1000000) (hw : w ≠ "own" ∨ k ≠ 3) :
    lmBodyK F [some A, some KT, some (.tup (.str w :: ts)), some (lm f), some (encT p), z4, some (.int (k : Nat)), z6] = .ok (.nx [some A, some KT, some (.tup (.str w :: ts)), some (lm (f ++ g)), some (encT p), z4, some (.int (k : Nat)), some (lm g)]) := by
  refine t_if (b := true) (by rw [isi_TK rfl (okTop_enc p), isTp_enc]) ?_
  rw [if_pos rfl]
  refine t_asg (t := lm g) (by simp [h]) rfl ?_
  simp only [List.set_cons_succ, List.set_cons_zero]
  refine t_seq (τ' := [some A, some KT, some (.tup (.str w :: ts)), some (lm f), some (encT p), z4, some (.int (k : Nat)), some (lm g)]) (t_if (b := false) ?_ rfl) (t_asg1 (t := lm (f ++ g)) ?_ rfl)
  · simp only [te_and, te_test, te_bin, te_C]
    rw [te_V (t := .tup (.str w :: ts)) rfl, te_V (t := .int (k : Nat)) rfl]
    simp only [RT.bind_ok, q_getT, atI_0, q_eqS, q_eqI, asB_bl]
    rcases hw with hw | hw
    · rw [decide_eq_false hw]; rfl
    · by_cases c : w = "own"
      · rw [decide_eq_true c]
        simp only [if_true, asB_bl]
        congr 1
        exact decide_eq_false (by omega)
      · rw [decide_eq_false c]; rfl
  · simp [lm_add hg]
end
section
end
def ItK (F : List T → RT T) (A KT : T) (q : T × List Mk) : Prop := (okTop q.1 ∧ isTp q.1 = false ∧ q.2 = []) ∨ ∃ p, q.1 = encT p ∧ F [A, KT, encT p] = .ok (lm q.2) ∧ q.2.length ≤ 19
theorem ItK.str {F : List T → RT T} {A KT : T} (x : Str) : ItK F A KT (.str x, []) := .inl ⟨okTop_str x, rfl, rfl⟩
theorem ItK.int {F : List T → RT T} {A KT : T} (i : Int) : ItK F A KT (.int i, []) := .inl ⟨.inr (.inl ⟨i, rfl⟩), rfl, rfl⟩
theorem ItK.len {F : List T → RT T} {A KT : T} {q : T × List Mk} : ItK F A KT q → q.2.length ≤ 19
  | .inl ⟨_, _, e⟩ => by rw [e]; simp
  | .inr ⟨_, _, _, h⟩ => h
theorem ItK.step {F : List T → RT T} {A KT : T} {w : Str} {ts : List T} {q : T × List Mk} (hw : w ≠ "own") (h : ItK F A KT q) {k : Nat} {f : List Mk} {z4 z6 : Option T} (hf : f.length ≤ 100000) :
    ∃ z4' z6', lmBodyK F [some A, some KT, some (.tup (.str w :: ts)), some (lm f), some q.1, z4, some (.int (k : Nat)), z6] = .ok (.nx [some A, some KT, some (.tup (.str w :: ts)), some (lm (f ++ q.2)), some q.1, z4', some (.int (k : Nat)), z6']) := by
  obtain ⟨t, g⟩ := q
  rcases h with ⟨h1, h2, h3⟩ | ⟨p, h1, h2, h3⟩
  · simp only at h1 h2 h3
    subst h3
    exact ⟨z4, z6, by rw [List.append_nil]; exact lm_skipK h1 h2⟩
  · simp only at h1 h2 h3
    subst h1
    exact ⟨_, _, lm_partK h2 (by show f.length + g.length ≤ _; omega) (.inl hw)⟩
section
end
end DL
namespace DL
open PySem
open KS (rise tLt ord_tup mem_rise Rising)
section
end
end DL
namespace DL
open PySem
open KS (rise tLt sLt ord_tup ord_str mem_rise Rising)
section
end
end DL
namespace DL
open PySem
end DL
namespace DL
open PySem
open KS (rise tLt ord_tup mem_rise Rising)
section
end
theorem siz_in {p : Deed} : ∀ {ds : List Deed}, p ∈ ds → sizD p ≤ sizDs ds
  | d :: ds, h => by
    simp only [sizDs]
    rcases List.mem_cons.mp h with rfl | h
    · omega
    · have := siz_in h; omega
theorem siz_its {d p : Deed} (h : It.d p ∈ itsD d) : sizD p < sizD d := by
  cases d <;> simp only [itsD, List.mem_cons, List.not_mem_nil, or_false, It.d.injEq, reduceCtorEq, false_or] at h
  all_goals first | (subst h; simp only [sizD]; omega) | (rcases h with rfl | rfl <;> simp only [sizD] <;> omega) | (rcases h with rfl | rfl | rfl <;> simp only [sizD] <;> omega)
theorem siz_dep {sz : List (Nat × Nat)} (hz : ∀ (i a b : Nat), sz[i]? = some (a, b) → a + b ≤ 4) : ∀ (n : Nat) (d : Deed) {K : List Str}, dep d ≤ n → okD sz K d → sizD d ≤ 5 ^ n := by
  intro n
  induction n with
  | zero => intro d K hd ho; cases d <;> simp only [dep] at hd <;> first | omega | (simp only [sizD]; exact Nat.le_refl _)
  | succ n ih =>
    intro d K hd ho
    have p1 : 1 ≤ 5 ^ n := Nat.one_le_pow _ _ (by decide)
    have pw : 5 ^ (n + 1) = 5 ^ n * 5 := Nat.pow_succ 5 n
    have sums : ∀ (ds : List Deed) {K : List Str}, (∀ p ∈ ds, dep p ≤ n ∧ okD sz K p) → sizDs ds ≤ 5 ^ n * ds.length := by
      intro ds
      induction ds with
      | nil => intro K _; simp [sizDs]
      | cons d ds ihs =>
        intro K h
        have h1 := h d List.mem_cons_self
        have h2 := ih d h1.1 h1.2
        have h3 := ihs fun p hp => h p (List.mem_cons_of_mem _ hp)
        simp only [sizDs, List.length_cons, Nat.mul_succ]
        omega
    cases d with
    | num i => simp only [sizD]; omega
    | nam x => simp only [sizD]; omega
    | dod x => simp only [sizD]; omega
    | ask => simp only [sizD]; omega
    | rd x => simp only [sizD]; omega
    | wr x a => simp only [dep] at hd; simp only [okD] at ho; have := ih a (by omega) ho.2; simp only [sizD]; omega
    | say a => simp only [dep] at hd; simp only [okD] at ho; have := ih a (by omega) ho; simp only [sizD]; omega
    | lt x a b => simp only [dep] at hd; simp only [okD] at ho; have := ih a (by omega) ho.2.1; have := ih b (by omega) ho.2.2; simp only [sizD]; omega
    | own x a b => simp only [dep] at hd; simp only [okD] at ho; have := ih a (by omega) ho.2.1; have := ih b (by omega) ho.2.2; simp only [sizD]; omega
    | iff a b c => simp only [dep] at hd; simp only [okD] at ho; have := ih a (by omega) ho.1; have := ih b (by omega) ho.2.1; have := ih c (by omega) ho.2.2; simp only [sizD]; omega
    | two w a b => simp only [dep] at hd; simp only [okD] at ho; have := ih a (by omega) ho.1; have := ih b (by omega) ho.2; simp only [sizD]; omega
    | call i ps hs =>
      simp only [okD] at ho
      have h4 := hz i _ _ ho.1
      have dc := fun p hp => dep_call (i := i) (ps := ps) (hs := hs) (p := p) hp
      have s1 := sums ps fun p hp => ⟨by have := dc p (.inl hp); omega, okDs_iff.mp ho.2.1 p hp⟩
      have s2 := sums hs fun p hp => ⟨by have := dc p (.inr hp); omega, okDs_iff.mp ho.2.2 p hp⟩
      have m : 5 ^ n * (ps.length + hs.length) ≤ 5 ^ n * 4 := Nat.mul_le_mul_left _ h4
      rw [Nat.mul_add] at m
      simp only [sizD]
      omega
theorem enc_call (i : Nat) (ps hs : List Deed) : encT (.call i ps hs) = .tup [.str "call", .int i, .tup (ps.map encT), .tup (hs.map encT)] := by rw [encT, encTs_map, encTs_map]
theorem slice1 {a : T} {ts : List T} : qSl (.tup (a :: ts)) (some 1) none = .ok (.tup ts) := congrArg (fun z => RT.ok (T.tup z)) (cut_hi (ts := a :: ts) (k := 1))
def strsT (l : List Str) : T := .lst (l.map T.str)
theorem strs_add {a b : List Str} (h : a.length + b.length ≤ 1000000) : qAdd (strsT a) (strsT b) = .ok (strsT (a ++ b)) := by
  unfold strsT
  rw [q_addL, if_pos (okB_big (by simpa using h)), List.map_append]
section
end
end DL
namespace DL
open PySem
section
end
section
end
end DL
namespace DL
open PySem
section
end
section
end
end DL
namespace DL
open PySem
def toS (i : Int) : Str := Str.ofString (toString i)
mutual
def wds : Deed → List Str
  | .num i => ["(", "number", toS i, ")"]
  | .nam x => ["(", "name", x, ")"]
  | .dod x => ["(", "do", x, ")"]
  | .ask => ["(", "ask", ")"]
  | .rd x => ["(", "read", x, ")"]
  | .wr x a => ("(" : Str) :: ("write" : Str) :: x :: (wds a ++ ([")"] : List Str))
  | .say a => ("(" : Str) :: ("say" : Str) :: (wds a ++ ([")"] : List Str))
  | .lt x a b => ("(" : Str) :: ("let" : Str) :: x :: (wds a ++ (wds b ++ ([")"] : List Str)))
  | .own x a b => ("(" : Str) :: ("own" : Str) :: x :: (wds a ++ (wds b ++ ([")"] : List Str)))
  | .iff a b c => ("(" : Str) :: ("if" : Str) :: (wds a ++ (wds b ++ (wds c ++ ([")"] : List Str))))
  | .two w a b => ("(" : Str) :: w.w :: (wds a ++ (wds b ++ ([")"] : List Str)))
  | .call i ps hs => ("(" : Str) :: ("call" : Str) :: toS i :: ("[" : Str) :: (wdss ps ++ (("]" : Str) :: ("[" : Str) :: (wdss hs ++ (["]", ")"] : List Str))))
def wdss : List Deed → List Str
  | [] => []
  | d :: ds => wds d ++ wdss ds
end
theorem wdss_map : ∀ ds : List Deed, wdss ds = ds.flatMap wds
  | [] => rfl
  | d :: ds => by rw [wdss, wdss_map ds]; rfl
mutual
def smN : Deed → Prop
  | .num i => 0 ≤ i ∧ i ≤ 1008
  | .nam _ => True
  | .dod _ => True
  | .ask => True
  | .rd _ => True
  | .wr _ a => smN a
  | .say a => smN a
  | .lt _ a b => smN a ∧ smN b
  | .own _ a b => smN a ∧ smN b
  | .iff a b c => smN a ∧ smN b ∧ smN c
  | .two _ a b => smN a ∧ smN b
  | .call i ps hs => i ≤ 1008 ∧ smNs ps ∧ smNs hs
def smNs : List Deed → Prop
  | [] => True
  | d :: ds => smN d ∧ smNs ds
end
theorem smNs_iff : ∀ {ds : List Deed}, smNs ds ↔ ∀ d ∈ ds, smN d
  | [] => by simp [smNs]
  | d :: ds => by simp [smNs, smNs_iff (ds := ds)]
def itS : It → List Str
  | .w x => [x]
  | .i n => [toS n]
  | .d p => wds p
theorem wds_its {d : Deed} (h : isCall d = false) : wds d = ("(" : Str) :: hdD d :: ((itsD d).flatMap itS ++ ([")"] : List Str)) := by
  cases d <;> first | (cases h; done) | (simp [wds, itsD, itS, hdD])
theorem log_small {i : Int} (h0 : 0 ≤ i) (h1 : i ≤ 1008) : i.natAbs.log2 < 1920 := by
  have : i.natAbs.log2 ≤ i.natAbs := Nat.log2_le_self _
  omega
theorem smN_i {d : Deed} {n : Int} (hs : smN d) (h : It.i n ∈ itsD d) : 0 ≤ n ∧ n ≤ 1008 := by
  cases d <;> simp [itsD] at h
  subst h
  simpa [smN] using hs
theorem smN_d {d p : Deed} (hs : smN d) (h : It.d p ∈ itsD d) : smN p := by
  cases d <;> simp only [itsD, List.mem_cons, List.not_mem_nil, or_false, It.d.injEq, reduceCtorEq, false_or] at h <;> simp only [smN] at hs
  all_goals first | (subst h; exact hs) | (rcases h with rfl | rfl <;> first | exact hs.1 | exact hs.2) | (rcases h with rfl | rfl | rfl <;> first | exact hs.1 | exact hs.2.1 | exact hs.2.2)
mutual
theorem wds_len : ∀ d : Deed, (wds d).length ≤ 8 * sizD d
  | .num _ => by simp [wds, sizD]
  | .nam x => by simp [wds, sizD]
  | .dod x => by simp [wds, sizD]
  | .ask => by simp [wds, sizD]
  | .rd x => by simp [wds, sizD]
  | .wr x a => by have := wds_len a; simp [wds, sizD]; omega
  | .say a => by have := wds_len a; simp [wds, sizD]; omega
  | .lt x a b => by have := wds_len a; have := wds_len b; simp [wds, sizD]; omega
  | .own x a b => by have := wds_len a; have := wds_len b; simp [wds, sizD]; omega
  | .iff a b c => by have := wds_len a; have := wds_len b; have := wds_len c; simp [wds, sizD]; omega
  | .two w a b => by have := wds_len a; have := wds_len b; simp [wds, sizD]; omega
  | .call i ps hs => by have := wdss_len ps; have := wdss_len hs; simp [wds, sizD]; omega
theorem wdss_len : ∀ ds : List Deed, (wdss ds).length ≤ 8 * sizDs ds
  | [] => by simp [wdss, sizDs]
  | d :: ds => by have := wds_len d; have := wdss_len ds; simp [wdss, sizDs]; omega
end
theorem wloop {F : List T → RT T} {D : T} : ∀ (ps : List Deed) (f : List Str) (z2 : Option T), (∀ p ∈ ps, F [encT p] = .ok (strsT (wds p))) → f.length + 8 * sizDs ps ≤ 1000000 →
    ∃ z2', tForL (hN 2) (tsAsg (tBin qAdd (tVar 1) (tCall 1 F (tCons (tVar 2) tNil))) (hN 1)) (ps.map encT) [some D, some (strsT f), z2] = .ok (.nx [some D, some (strsT (f ++ ps.flatMap wds)), z2'])
  | [], f, z2, _, _ => ⟨z2, by simp [tForL]⟩
  | p :: ps, f, z2, h, hb => by
    have h1 := h p List.mem_cons_self
    have l1 := wds_len p
    simp only [sizDs] at hb
    obtain ⟨z, e⟩ := wloop ps (f ++ wds p) (some (encT p)) (fun q hq => h q (List.mem_cons_of_mem _ hq)) (by rw [List.length_append]; omega)
    refine ⟨z, ?_⟩
    have ad := strs_add (a := f) (b := wds p) (by omega)
    have step : tsAsg (tBin qAdd (tVar 1) (tCall 1 F (tCons (tVar 2) tNil))) (hN 1) [some D, some (strsT f), some (encT p)] = .ok (.nx [some D, some (strsT (f ++ wds p)), some (encT p)]) := t_asg1 (t := strsT (f ++ wds p)) (by simp [h1, ad]) rfl
    rw [List.map_cons]
    unfold tForL
    simp only [te_hN, List.set_cons_succ, List.set_cons_zero, step, tsN]
    rw [e]
    simp
theorem iloop {F : List T → RT T} {D : T} : ∀ (its : List It) (f : List Str) (z2 : Option T), (∀ p, It.d p ∈ its → F [encT p] = .ok (strsT (wds p))) → (∀ n, It.i n ∈ its → 0 ≤ n ∧ n ≤ 1008) → f.length + (its.flatMap itS).length ≤ 1000000 →
    ∃ z2', tForL (hN 2) (tsAsg (tBin qAdd (tVar 1) (tIf (tTest (tIsi "tuple" (tVar 2))) (tCall 1 F (tCons (tVar 2) tNil)) (tLst (tCons (tFn qStrX (tCons (tVar 2) tNil)) tNil)))) (hN 1)) (its.map itT) [some D, some (strsT f), z2] = .ok (.nx [some D, some (strsT (f ++ its.flatMap itS)), z2'])
  | [], f, z2, _, _, _ => ⟨z2, by simp [tForL]⟩
  | t :: its, f, z2, h, hn, hb => by
    rw [List.flatMap_cons, List.length_append] at hb
    obtain ⟨z, e⟩ := iloop its (f ++ itS t) (some (itT t)) (fun q hq => h q (List.mem_cons_of_mem _ hq)) (fun q hq => hn q (List.mem_cons_of_mem _ hq)) (by rw [List.length_append]; omega)
    refine ⟨z, ?_⟩
    have ad := strs_add (a := f) (b := itS t) (by omega)
    have part : tIf (tTest (tIsi "tuple" (tVar 2))) (tCall 1 F (tCons (tVar 2) tNil)) (tLst (tCons (tFn qStrX (tCons (tVar 2) tNil)) tNil)) [some D, some (strsT f), some (itT t)] = .ok (strsT (itS t)) := by
      have hi : tTest (tIsi "tuple" (tVar 2)) [some D, some (strsT f), some (itT t)] = .ok (itP t) := isi_at rfl (by rw [← itT_tp]; exact kit_top (itT_top t))
      refine te_if.trans ?_
      rw [hi, RT.bind_ok]
      clear hi
      cases t with
      | w x => simp [itP, itT, qStrX, one1, itS, strsT]
      | i n =>
        have l := log_small (hn n List.mem_cons_self).1 (hn n List.mem_cons_self).2
        simp [itP, itT, qStrX, one1, l, itS, strsT, toS]
      | d p =>
        have e := h p List.mem_cons_self
        simp [itP, itT, e, itS]
    have step : tsAsg (tBin qAdd (tVar 1) (tIf (tTest (tIsi "tuple" (tVar 2))) (tCall 1 F (tCons (tVar 2) tNil)) (tLst (tCons (tFn qStrX (tCons (tVar 2) tNil)) tNil)))) (hN 1) [some D, some (strsT f), some (itT t)] = .ok (.nx [some D, some (strsT (f ++ itS t)), some (itT t)]) := t_asg1 (t := strsT (f ++ itS t)) (by
      rw [te_bin, part]
      simp [ad]) rfl
    rw [List.map_cons]
    unfold tForL
    simp only [te_hN, List.set_cons_succ, List.set_cons_zero, step, tsN]
    rw [e]
    simp
theorem q_lit {l : List Str} {x : Str} (h : l.length + 1 ≤ 1000000) : qAdd (strsT l) (.lst [.str x]) = .ok (strsT (l ++ [x])) := strs_add (b := [x]) h
theorem words_non {d : Deed} {m : Nat} (hc : isCall d = false) (hs : smN d) (hz : sizD d ≤ 100000) (hp : ∀ p, It.d p ∈ itsD d → tv (csem (m + 1) .f_words_for) [encT p] = .ok (strsT (wds p))) : tv (csem (m + 2) .f_words_for) [encT d] = .ok (strsT (wds d)) := by
  have lw := wds_len d
  rw [wds_its hc] at lw
  simp only [List.length_cons, List.length_append, List.length_nil] at lw
  have e : encT d = .tup (.str (hdD d) :: (itsD d).map itT) := enc_its hc
  have nc := hd_call hc
  refine cq_f_words_for (t_run rfl ?_) (by simp)
  unfold ct_f_words_for
  refine t_skip (by rw [e]; simp [nc]) ?_
  refine t_asg (t := strsT ["(", hdD d]) (by rw [e]; simp [strsT]) rfl ?_
  obtain ⟨z2, el⟩ := iloop (F := tv (csem (m + 1) .f_words_for)) (D := encT d) (itsD d) ["(", hdD d] none hp (fun n hn => smN_i hs hn) (by simp only [List.length_cons, List.length_nil]; omega)
  refine t_seq (t_for (ti_any (l := .tup ((itsD d).map itT)) (by simp only [te_sl, te_part, te_C, te_noPart]; rw [te_V (t := encT d) rfl, e]; simp only [RT.bind_ok, asI_int]; exact slice1) (.inr (.inl rfl))) el) (t_ret ?_)
  rw [wds_its hc]
  have ad := q_lit (l := (["(", hdD d] : List Str) ++ (itsD d).flatMap itS) (x := ")") (by simp only [List.length_cons, List.length_append, List.length_nil]; omega)
  simp only [List.cons_append, List.nil_append] at ad
  simp [ad]
theorem words_for_T : ∀ (k : Nat) (d : Deed) (n : Nat), dep d ≤ k → smN d → sizD d ≤ 100000 → k + 4 ≤ n → tv (csem n .f_words_for) [encT d] = .ok (strsT (wds d)) := by
  intro k
  induction k with
  | zero =>
    intro d n hd hs hz hn
    obtain ⟨m, rfl⟩ : ∃ m, n = m + 2 := ⟨n - 2, by omega⟩
    have hc : isCall d = false := by cases d <;> simp only [dep] at hd <;> first | omega | rfl
    exact words_non hc hs hz fun p hp => by have := its_dep hp; omega
  | succ k ih =>
    intro d n hd hs hz hn
    obtain ⟨m, rfl⟩ : ∃ m, n = m + 2 := ⟨n - 2, by omega⟩
    cases hc : isCall d with
    | false => exact words_non hc hs hz fun p hp => ih p (m + 1) (by have := its_dep hp; omega) (smN_d hs hp) (by have := siz_its hp; omega) (by omega)
    | true =>
      cases d <;> first | (cases hc; done) | skip
      rename_i i ps hs'
      simp only [sizD] at hz
      simp only [smN] at hs
      have l1 := wdss_len ps
      have l2 := wdss_len hs'
      have hp : ∀ p ∈ ps ++ hs', tv (csem (m + 1) .f_words_for) [encT p] = .ok (strsT (wds p)) := fun p hp => by
        have dp := dep_call (i := i) (ps := ps) (hs := hs') (List.mem_append.mp hp)
        refine ih p (m + 1) (by omega) ?_ ?_ (by omega)
        · rcases List.mem_append.mp hp with h | h
          · exact smNs_iff.mp hs.2.1 p h
          · exact smNs_iff.mp hs.2.2 p h
        · have : ∀ (l : List Deed), p ∈ l → sizD p ≤ sizDs l := fun l => by
            induction l with
            | nil => intro h; cases h
            | cons q l ih => intro h; simp only [sizDs]; rcases List.mem_cons.mp h with rfl | h
                             · omega
                             · have := ih h; omega
          rcases List.mem_append.mp hp with h | h
          · have := this ps h; omega
          · have := this hs' h; omega
      have lg := log_small (i := (i : Int)) (by omega) (by omega)
      have lg2 : i.log2 < 1920 := lg
      refine cq_f_words_for (t_run rfl ?_) (by simp)
      unfold ct_f_words_for
      rw [enc_call]
      refine t_seqR (t_if (b := true) (by simp) ?_)
      rw [if_pos rfl]
      refine t_asg (t := strsT ["(", "call", toS i, "["]) (by simp [strsT, qStrX, one1, lg, lg2, toS]) rfl ?_
      obtain ⟨z2, el⟩ := wloop (F := tv (csem (m + 1) .f_words_for)) (D := .tup [.str "call", .int i, .tup (ps.map encT), .tup (hs'.map encT)]) ps ["(", "call", toS i, "["] none (fun p h => hp p (List.mem_append_left _ h)) (by simp only [List.length_cons, List.length_nil]; omega)
      refine t_seq (t_for (ti_any (l := .tup (ps.map encT)) (by simp) (.inr (.inl rfl))) el) ?_
      rw [wdss_map] at l1 l2
      have ad := strs_add (a := (["(", "call", toS i, "["] : List Str) ++ ps.flatMap wds) (b := ["]", "["]) (by simp only [List.length_cons, List.length_append, List.length_nil]; omega)
      refine t_asg (t := strsT ((["(", "call", toS i, "["] : List Str) ++ ps.flatMap wds ++ (["]", "["] : List Str))) (by
        have ad' : qAdd (strsT ((["(", "call", toS i, "["] : List Str) ++ ps.flatMap wds)) (.lst [.str "]", .str "["]) = _ := ad
        simp only [List.cons_append, List.nil_append] at ad'
        simp [ad']) rfl ?_
      obtain ⟨z3, el3⟩ := wloop (F := tv (csem (m + 1) .f_words_for)) (D := .tup [.str "call", .int i, .tup (ps.map encT), .tup (hs'.map encT)]) hs' ((["(", "call", toS i, "["] : List Str) ++ ps.flatMap wds ++ (["]", "["] : List Str)) z2 (fun p h => hp p (List.mem_append_right _ h)) (by simp only [List.length_cons, List.length_append, List.length_nil]; omega)
      refine t_seq (t_for (ti_any (l := .tup (hs'.map encT)) (by simp) (.inr (.inl rfl))) el3) (t_ret ?_)
      have ad2 := strs_add (a := (["(", "call", toS i, "["] : List Str) ++ ps.flatMap wds ++ (["]", "["] : List Str) ++ hs'.flatMap wds) (b := ["]", ")"]) (by simp only [List.length_cons, List.length_append, List.length_nil]; omega)
      have ad2' : qAdd (strsT ((["(", "call", toS i, "["] : List Str) ++ ps.flatMap wds ++ (["]", "["] : List Str) ++ hs'.flatMap wds)) (.lst [.str "]", .str ")"]) = _ := ad2
      simp only [List.cons_append, List.nil_append, List.append_assoc] at ad2'
      simp [ad2', wds, wdss_map]
end DL
namespace DL
open PySem L2
def rp {α : Type} : Pg α → List Int → Nat → (Nat × α) ⊕ Tch
  | .ret a, _, k => .inl (k, a)
  | .act m f, as, k => match as[k]? with
    | some v => rp (f v) as (k + 1)
    | none => .inr m
def tchD : Tch → D
  | .ask => .tup [.str "ask"] | .read x => .tup [.str "read", .str x] | .wrt x v => .tup [.str "write", .str x, .int v] | .say v => .tup [.str "say", .int v]
structure Pa where
  run : Nat
  cells : Nat
  ans : Nat
  rules : D
def raF (L : Pa) (k : Nat) (w : D) : List (Str × D) := [("rules", L.rules), ("world", .non), ("answers", .ref L.ans), ("place", .int k), ("wanted", w), ("cells", .ref L.cells)]
structure RepA (L : Pa) (S : Sto) (as : List Int) (k : Nat) (cs : List Int) : Prop where
  run : S[L.run]? = some (.ins "Run" (raF L k .non))
  ans : S[L.ans]? = some (.lst (as.map .int))
  cells : S[L.cells]? = some (.lst (cs.map .int))
  le : k ≤ as.length
structure FrA (L : Pa) (S S' : Sto) : Prop where
  len : S.length ≤ S'.length
  keep : ∀ n o, n ≠ L.run → n ≠ L.cells → S[n]? = some o → S'[n]? = some o
theorem FrA.refl {L : Pa} {S : Sto} : FrA L S S := ⟨Nat.le_refl _, fun _ _ _ _ h => h⟩
theorem FrA.trans {L : Pa} {S S' S'' : Sto} (a : FrA L S S') (b : FrA L S' S'') : FrA L S S'' := ⟨Nat.le_trans a.len b.len, fun n o h1 h2 e => b.keep n o h1 h2 (a.keep n o h1 h2 e)⟩
theorem FrA.setC {L : Pa} {S : Sto} {o : O} : FrA L S (S.set L.cells o) := ⟨by simp, fun m u _ h2 e => by
  rw [List.getElem?_set_ne (Ne.symm h2)]
  exact e⟩
theorem FrA.app {L : Pa} {S E : Sto} : FrA L S (S ++ E) := ⟨by simp, fun n o _ _ e => by
  rw [List.getElem?_append_left (List.getElem?_eq_some_iff.mp e).1]
  exact e⟩
structure ApA (L : Pa) : Prop where
  rc : L.run ≠ L.cells
  ra : L.ans ≠ L.run
  ca : L.ans ≠ L.cells
def SimP (L : Pa) (as : List Int) (S : Sto) (k lo : Nat) (hi : Int) (x : R D) (p : Pg (Int × List Int)) : Prop := match rp p as k with
  | .inl q => ∃ S', x = .ok (.int q.2.1) S' ∧ RepA L S' as q.1 q.2.2 ∧ FrA L S S' ∧ lo ≤ q.2.2.length ∧ (q.2.2.length : Int) ≤ hi
  | .inr m => ∃ S' k', x = .exc "Pause" S' ∧ FrA L S S' ∧ S'[L.run]? = some (.ins "Run" (raF L k' (tchD m)))
section
variable {L : Pa} {as : List Int} {S : Sto} {k lo lo1 : Nat} {hi hi1 : Int} {x x' : R D} {p : Pg (Int × List Int)} {cs : List Int}
theorem SimP.mono (h : SimP L as S k lo1 hi1 x p) (h1 : lo ≤ lo1) (h2 : hi1 ≤ hi) : SimP L as S k lo hi x p := by
  unfold SimP at h ⊢
  cases e : rp p as k with
  | inl q =>
    rw [e] at h
    obtain ⟨S', a, b, c, d, f⟩ := h
    exact ⟨S', a, b, c, by omega, by omega⟩
  | inr m => rw [e] at h; exact h
end
section
end
section
variable {L : Pa} {as : List Int} {S : Sto} {k lo : Nat} {hi : Int} {cs : List Int}
theorem RepA.setC (R : RepA L S as k cs) (ap : ApA L) (cs' : List Int) : RepA L (S.set L.cells (.lst (cs'.map .int))) as k cs' :=
  ⟨gset R.run (Ne.symm ap.rc), gset R.ans (Ne.symm ap.ca), gsame R.cells, R.le⟩
theorem RepA.app (R : RepA L S as k cs) (E : Sto) : RepA L (S ++ E) as k cs :=
  ⟨by rw [List.getElem?_append_left (List.getElem?_eq_some_iff.mp R.run).1]; exact R.run, by rw [List.getElem?_append_left (List.getElem?_eq_some_iff.mp R.ans).1]; exact R.ans, by rw [List.getElem?_append_left (List.getElem?_eq_some_iff.mp R.cells).1]; exact R.cells, R.le⟩
end
end DL
namespace DL
open PySem L2
def ImA (L : Pa) (as : List Int) (S0 : Sto) (c : Nat) (t : PT) (N : Int) (p : D) (r m : Nat) : Prop :=
  ∀ n, m ≤ n → ∀ S k cs, FrA L S0 S → RepA L S as k cs → c ≤ cs.length → (cs.length : Int) + N ≤ 100000 → SimP L as S k cs.length (cs.length + N) (csem n .m_Run_worth [.ref L.run, p, .ref r] S) (t cs)
theorem ImA.up {L : Pa} {as : List Int} {S S' : Sto} {c c' : Nat} {t : PT} {N N' : Int} {p : D} {r m m' : Nat} (h : ImA L as S c t N p r m) (f : FrA L S S') (hc : c ≤ c') (hN : N ≤ N') (hm : m ≤ m') : ImA L as S' c' t N' p r m' :=
  fun n hn S1 k cs f1 R hk hr => (h n (Nat.le_trans hm hn) S1 k cs (f.trans f1) R (Nat.le_trans hc hk) (by omega)).mono (Nat.le_refl _) (by omega)
def EvA (L : Pa) (as : List Int) (S : Sto) (c m : Nat) (hw : Str → Int) (x : Str) (v : PEV) (o : Option D) : Prop := match v with
  | .int v => o = some (.int v) ∧ kd x = 1
  | .cell i => o = some (.int (i : Int)) ∧ kd x = 2 ∧ i < c
  | .th t => (∃ p r, o = some (.tup [p, .ref r]) ∧ ImA L as S c t (hw x) p r m) ∧ kd x = 3
structure EnA (L : Pa) (as : List Int) (S : Sto) (c r m b : Nat) (hw : Str → Int) (env : PEn) (K : List Str) : Prop where
  d : ∃ kvs, S[r]? = some (.dct kvs) ∧ kvs.length ≤ b ∧ ∀ x, match env x with
    | none => valD kvs (.inr x) = none
    | some v => EvA L as S c m hw x v (valD kvs (.inr x))
  r : r ≠ L.run ∧ r ≠ L.cells
  k : ∀ x ∈ K, env x ≠ none
theorem EvA.up {L : Pa} {as : List Int} {S S' : Sto} {c c' m : Nat} {hw : Str → Int} {x : Str} {v : PEV} {o : Option D} (h : EvA L as S c m hw x v o) (f : FrA L S S') (hc : c ≤ c') : EvA L as S' c' m hw x v o := by
  cases v with
  | int v => exact h
  | cell i => exact ⟨h.1, h.2.1, Nat.lt_of_lt_of_le h.2.2 hc⟩
  | th t =>
    obtain ⟨⟨p, r, e, i⟩, k⟩ := h
    exact ⟨⟨p, r, e, i.up f hc (Int.le_refl _) (Nat.le_refl _)⟩, k⟩
theorem EnA.up {L : Pa} {as : List Int} {S S' : Sto} {c c' r m b : Nat} {hw : Str → Int} {env : PEn} {K : List Str} (h : EnA L as S c r m b hw env K) (f : FrA L S S') (hc : c ≤ c') : EnA L as S' c' r m b hw env K := by
  obtain ⟨⟨kvs, e, hl, hx⟩, hr, hk⟩ := h
  refine ⟨⟨kvs, f.keep _ _ hr.1 hr.2 e, hl, fun x => ?_⟩, hr, hk⟩
  have := hx x
  cases q : env x with
  | none => rw [q] at this; exact this
  | some v => rw [q] at this; exact this.up f hc
section
variable {L : Pa} {as : List Int} {S S0 : Sto} {k : Nat} {cs : List Int} {ε : Env} {c r m n b M : Nat} {hw : Str → Int} {env : PEn} {K : List Str} {x : Str} {N Na Nb Nc : Int} {t : PT} {p : D} {rs : List PRS}
theorem EnA.get (h : EnA L as S c r m b hw env K) (hx : x ∈ K) : ∃ v kvs, env x = some v ∧ S[r]? = some (.dct kvs) ∧ EvA L as S c m hw x v (valD kvs (.inr x)) := by
  obtain ⟨⟨kvs, e, _, q⟩, _, hk⟩ := h
  have := q x
  cases e2 : env x with
  | none => exact absurd e2 (hk x hx)
  | some v => rw [e2] at this; exact ⟨v, kvs, rfl, e, this⟩
theorem EnA.none (h : EnA L as S c r m b hw env K) (hx : x ∈ abcd) : env x = none ∧ ∃ kvs, S[r]? = some (.dct kvs) ∧ valD kvs (.inr x) = none := by
  obtain ⟨⟨kvs, e, _, q⟩, _, _⟩ := h
  have := q x
  have k0 := kd_abcd x hx
  cases e2 : env x with
  | none => rw [e2] at this; exact ⟨rfl, kvs, e, this⟩
  | some v =>
    rw [e2] at this
    cases v with
    | int v => have := this.2; omega
    | cell i => have := this.2.1; omega
    | th t => have := this.2; omega
end
end DL
namespace DL
open PySem L2
section
variable {L : Pa} {as : List Int} {S S0 : Sto} {k : Nat} {cs : List Int} {ε : Env} {c r m n b M : Nat} {hw : Str → Int} {env : PEn} {K : List Str} {x : Str} {N Na Nb Nc : Int} {t : PT} {p : D} {rs : List PRS}
theorem RepA.ir (R : RepA L S as k cs) : L.run < S.length := (List.getElem?_eq_some_iff.mp R.run).1
theorem RepA.ic (R : RepA L S as k cs) : L.cells < S.length := (List.getElem?_eq_some_iff.mp R.cells).1
theorem EnA.put (E : EnA L as S c r m b hw env K) {S' : Sto} (f : FrA L S S') (ir : L.run < S'.length) (ic : L.cells < S'.length) {kvs : List (Key × D)} (hk : S[r]? = some (.dct kvs)) {c' : Nat} (hc : c ≤ c') {kvs' : List (Key × D)} (hl : kvs'.length ≤ b + 1) (hv : ∀ y, valD kvs' (.inr y) = if y = x then some p else valD kvs (.inr y)) {v : PEV} (hx : EvA L as (S' ++ [.dct kvs']) c' m hw x v (some p)) :
    EnA L as (S' ++ [.dct kvs']) c' S'.length m (b + 1) hw (putP x v env) (x :: K) := by
  obtain ⟨⟨kvs0, e, hlen, q⟩, hr, hK⟩ := E
  rw [hk] at e
  cases e
  refine ⟨⟨kvs', by simp, hl, fun y => ?_⟩, ⟨by omega, by omega⟩, fun y hy => ?_⟩
  · have := q y
    rw [hv y]
    unfold putP
    by_cases e : y = x
    · subst e
      simp only [if_true]
      exact hx
    · simp only [e, if_false]
      cases h : env y with
      | none => rw [h] at this; exact this
      | some w => rw [h] at this; exact this.up (f.trans .app) hc
  · unfold putP
    rcases List.mem_cons.mp hy with e | e
    · rw [if_pos e]; simp
    · split
      · simp
      · exact hK y e
end
end DL
namespace DL
open PySem L2
section
end
end DL
namespace DL
open PySem L2
section
end
section
end
end DL
namespace DL
open PySem L2
section
variable {W : Wd} {S : Sto} {st : Stt}
structure WNes (W : Wd) : Prop where
  a : W.w ≠ W.kept
  b : W.w ≠ W.spoken
  c : W.w ≠ W.marks
  e : W.kept ≠ W.spoken
  f : W.kept ≠ W.marks
  h : W.spoken ≠ W.marks
  qa : W.w ≠ W.asked
  qb : W.kept ≠ W.asked
  qc : W.spoken ≠ W.asked
  qd : W.marks ≠ W.asked
theorem WApart.nes (ap : WApart W) : WNes W := by
  have nd := ap.nd
  have na := ap.asked
  simp only [Wd.mut, List.nodup_cons, List.mem_cons, List.not_mem_nil, or_false, not_or] at nd na
  obtain ⟨⟨a, b, c⟩, ⟨e, f⟩, h, _⟩ := nd
  obtain ⟨q1, q2, q3, q4⟩ := na
  exact ⟨a, b, c, e, f, h, Ne.symm q1, Ne.symm q2, Ne.symm q3, Ne.symm q4⟩
theorem WRep.setMarks (R : WRep W S st) (N : WNes W) (ms : List D) : WRep W (S.set W.marks (.lst ms)) { st with marks := ms } :=
  ⟨gset R.w N.c.symm, gset R.kept N.f.symm, gset R.spoken N.h.symm, gsame R.marks, gset R.asked N.qd⟩
theorem WRep.setSpoken (R : WRep W S st) (N : WNes W) (ms : List Int) : WRep W (S.set W.spoken (.lst (ms.map .int))) { st with spoken := ms } :=
  ⟨gset R.w N.b.symm, gset R.kept N.e.symm, gsame R.spoken, gset R.marks N.h, gset R.asked N.qc⟩
theorem WRep.setKept (R : WRep W S st) (N : WNes W) (k : Str → Int) : WRep W (S.set W.kept (.dct (keptD k))) { st with kept := k } :=
  ⟨gset R.w N.a.symm, gsame R.kept, gset R.spoken N.e, gset R.marks N.f, gset R.asked N.qb⟩
theorem WRep.setMany (R : WRep W S st) (N : WNes W) (m : Nat) : WRep W (S.set W.w (.ins "World" (wdF W m))) { st with many := m } :=
  ⟨gsame R.w, gset R.kept N.a, gset R.spoken N.b, gset R.marks N.c, gset R.asked N.qa⟩
theorem WFrm.set {n : Nat} {o : O} (h : n ∈ W.mut) : WFrm W S (S.set n o) := ⟨by simp, fun m u hm e => by
  have : n ≠ m := fun q => hm (q ▸ h)
  rw [List.getElem?_set_ne this]
  exact e⟩
end
def adv {α : Type} : Pg α → List Int → Pg α
  | .ret a, _ => .ret a
  | .act m f, [] => .act m f
  | .act _ f, v :: l => adv (f v) l
def mkOf {α : Type} : Pg α → D
  | .ret _ => .non
  | .act m _ => tchD m
def thF (rd dd : D) (q : Nat) (mk : D) (e : Int) : List (Str × D) := [("rules", rd), ("deed", dd), ("answers", .ref q), ("mark", mk), ("end", .int e)]
end DL
namespace DL
open PySem L2
def Dpt {α : Type} : Pg α → Int → Prop
  | .ret _, n => 0 ≤ n
  | .act _ f, n => ∀ v, Dpt (f v) (n - 1)
theorem Dpt.mono {α : Type} : ∀ {p : Pg α} {n m : Int}, Dpt p n → n ≤ m → Dpt p m
  | .ret _, n, m, h, q => by have h : 0 ≤ n := h; show 0 ≤ m; omega
  | .act _ f, n, m, h, q => fun v => Dpt.mono (h v) (by omega)
theorem Dpt.pos {α : Type} : ∀ {p : Pg α} {n : Int}, Dpt p n → 0 ≤ n
  | .ret _, n, h => h
  | .act _ f, n, h => by have := Dpt.pos (h 0); omega
theorem Dpt.bind {α β : Type} {f : α → Pg β} {b : Int} : ∀ {p : Pg α} {a : Int}, Dpt p a → (∀ r, Dpt (f r) b) → Dpt (p.bind f) (a + b)
  | .ret r, a, h, hf => (hf r).mono (by have h : 0 ≤ a := h; omega)
  | .act m g, a, h, hf => fun v => (Dpt.bind (h v) hf).mono (by omega)
abbrev DpP (t : PT) (w : Int) : Prop := ∀ c, Dpt (t c) w
theorem DpP.bind {t : PT} {k : Int → PT} {a b : Int} (ht : DpP t a) (hk : ∀ v, DpP (k v) b) : DpP (zBind t k) (a + b) := fun c => (ht c).bind fun r => hk r.1 r.2
theorem DpP.up {t : PT} {a b : Int} (h : DpP t a) (q : a ≤ b) : DpP t b := fun c => (h c).mono q
theorem DpP.iter {t : PT} {w : Int} (h : DpP t w) : ∀ n : Nat, DpP (zIter t n) (n * w)
  | 0, c => by show (0 : Int) ≤ _; simp
  | n + 1, c => by
    have := (h.bind (fun _ => h.iter n)) c
    exact this.mono (by rw [Int.natCast_add, Int.add_mul]; omega)
def DpE (env : PEn) (hw : Str → Int) : Prop := (∀ x, 0 ≤ hw x) ∧ ∀ x t, env x = some (.th t) → DpP t (hw x)
theorem DpE.put {env : PEn} {hw : Str → Int} (h : DpE env hw) {x : Str} {v : PEV} (hv : ∀ t, v ≠ .th t) : DpE (putP x v env) hw := ⟨h.1, fun y t e => by
  unfold putP at e
  split at e
  · exact absurd (by injection e) (hv t)
  · exact h.2 y t e⟩
section
end
end DL
namespace DL
open PySem L2
structure ThR (W : Wd) (T : List Nat) (S : Sto) (rules : List Rule) (d : Deed) (a : Nat) (p : Pg Int) (M : Nat) : Prop where
  ex : ∃ (q : Nat) (as : List Int) (e : Int), S[a]? = some (.ins "Thread" (thF (encRs rules) (enc d) q (mkOf p) e)) ∧ S[q]? = some (.lst (as.map .int)) ∧ p = adv (tree rules d) as ∧ (∀ v, p = .ret v → e = v) ∧ q ∉ W.mut ∧ q ∉ T ∧ as.length ≤ M
structure FrG (W : Wd) (a : Nat) (S S' : Sto) : Prop where
  len : S.length ≤ S'.length
  keep : ∀ j o, j ∉ W.mut → j ≠ a → S[j]? = some o → S'[j]? = some o
theorem FrG.refl {W : Wd} {a : Nat} {S : Sto} : FrG W a S S := ⟨Nat.le_refl _, fun _ _ _ _ e => e⟩
theorem FrG.trans {W : Wd} {a : Nat} {S S' S'' : Sto} (x : FrG W a S S') (y : FrG W a S' S'') : FrG W a S S'' := ⟨Nat.le_trans x.len y.len, fun j o h1 h2 e => y.keep j o h1 h2 (x.keep j o h1 h2 e)⟩
theorem ThR.keep {W : Wd} {T : List Nat} {S S' : Sto} {rules : List Rule} {d : Deed} {a b : Nat} {p : Pg Int} {M M' : Nat} (h : ThR W T S rules d a p M) (f : FrG W b S S') (hb : b ∈ T) (ha : a ∉ W.mut) (hab : a ≠ b) (hM : M ≤ M') : ThR W T S' rules d a p M' := by
  obtain ⟨q, as, e, h1, h2, h3, h4, h5, h6, h7⟩ := h.ex
  exact ⟨q, as, e, f.keep _ _ ha hab h1, f.keep _ _ h5 (fun z => h6 (z ▸ hb)) h2, h3, h4, h5, h6, Nat.le_trans h7 hM⟩
section
end
end DL
namespace DL
open PySem L2
inductive PotL : List (Pg Int) → Int → Prop
  | nil : PotL [] 0
  | cons {p : Pg Int} {n N : Int} {ps : List (Pg Int)} : Dpt p n → PotL ps N → PotL (p :: ps) (n + N)
theorem PotL.pos {ps : List (Pg Int)} {N : Int} (h : PotL ps N) : 0 ≤ N := by
  induction h with
  | nil => exact Int.le_refl _
  | cons d _ ih => have := d.pos; omega
theorem PotL.set {m : Tch} {f : Int → Pg Int} (v : Int) {ps : List (Pg Int)} {N : Int} (h : PotL ps N) : ∀ {i : Nat}, ps[i]? = some (.act m f) → PotL (ps.set i (f v)) (N - 1) := by
  induction h with
  | nil => intro i e; simp at e
  | cons d t ih =>
    rename_i p n N ps
    intro i e
    cases i with
    | zero =>
      simp at e
      subst e
      have d2 : Dpt (f v) (n - 1) := d v
      have := PotL.cons d2 t
      rw [show n - 1 + N = n + N - 1 by omega] at this
      exact this
    | succ i =>
      have := PotL.cons d (ih (i := i) (by simpa using e))
      rw [show n + (N - 1) = n + N - 1 by omega] at this
      exact this
theorem PotL.at {ps : List (Pg Int)} {N : Int} (h : PotL ps N) : ∀ {i : Nat} {p : Pg Int}, ps[i]? = some p → Dpt p N := by
  induction h with
  | nil => intro i p e; simp at e
  | cons d t ih =>
    intro i p e
    cases i with
    | zero => simp at e; subst e; exact d.mono (by have := t.pos; omega)
    | succ i => exact (ih (i := i) (by simpa using e)).mono (by have := d.pos; omega)
theorem PotL.of {n : Int} : ∀ {ps : List (Pg Int)}, (∀ p ∈ ps, Dpt p n) → PotL ps (n * ps.length)
  | [], _ => by simpa using PotL.nil
  | p :: ps, h => by
    have := PotL.cons (h p List.mem_cons_self) (PotL.of fun q hq => h q (List.mem_cons_of_mem _ hq))
    rw [List.length_cons, Int.natCast_add, Int.mul_add]
    rw [show n * (ps.length : Int) + n * ((1 : Nat) : Int) = n + n * ps.length by simp; omega]
    exact this
structure Ths (W : Wd) (T : List Nat) (S : Sto) (rules : List Rule) (ds : List Deed) (ps : List (Pg Int)) (st : Stt) : Prop where
  nd : T.Nodup
  l1 : T.length = ds.length
  l2 : ps.length = ds.length
  out : ∀ a ∈ T, a ∉ W.mut
  lt : ∀ a ∈ T, a < S.length
  w : WRep W S st
  th : ∀ (i a : Nat) (d : Deed) (p : Pg Int), T[i]? = some a → ds[i]? = some d → ps[i]? = some p → ThR W T S rules d a p st.marks.length
  ok : ∀ p ∈ ps, p.In (okM [])
  pot : ∃ N, PotL ps N ∧ N + st.marks.length ≤ 90000
  sp : st.spoken.length ≤ st.marks.length
structure FrA' (W : Wd) (T : List Nat) (S S' : Sto) : Prop where
  len : S.length ≤ S'.length
  keep : ∀ (j : Nat) (o : O), j ∉ W.mut → j ∉ T → S[j]? = some o → S'[j]? = some o
theorem FrA'.refl {W : Wd} {T : List Nat} {S : Sto} : FrA' W T S S := ⟨Nat.le_refl _, fun _ _ _ _ e => e⟩
theorem FrA'.trans {W : Wd} {T : List Nat} {S S' S'' : Sto} (x : FrA' W T S S') (y : FrA' W T S' S'') : FrA' W T S S'' := ⟨Nat.le_trans x.len y.len, fun j o h1 h2 e => y.keep j o h1 h2 (x.keep j o h1 h2 e)⟩
section
end
end DL
namespace DL
open PySem L2
section
end
end DL
namespace DL
open PySem L2
section
end
end DL
namespace DL
open PySem
section
end
end DL
namespace DL
open PySem L2
def haF (W : Wd) (rules : List Rule) (dl tl : Nat) : List (Str × D) := [("rules", encRs rules), ("world", .ref W.w), ("deeds", .ref dl), ("threads", .ref tl)]
structure HallR (W : Wd) (hh dl tl : Nat) (T : List Nat) (S : Sto) (rules : List Rule) (ds : List Deed) (ps : List (Pg Int)) (st : Stt) : Prop where
  th : Ths W T S rules ds ps st
  o : S[hh]? = some (.ins "Hall" (haF W rules dl tl))
  d : S[dl]? = some (.lst (ds.map enc))
  t : S[tl]? = some (.lst (T.map D.ref))
  ah : hh ∉ W.mut ∧ hh ∉ T
  ad : dl ∉ W.mut ∧ dl ∉ T
  ae : tl ∉ W.mut ∧ tl ∉ T
  dt : dl ≠ tl
  aq : W.asked ≠ dl ∧ W.asked ≠ tl
  bd : ∃ N, PotL ps N ∧ N + (st.marks.length : Int) ≤ 1000 * (ds.length : Int)
def isAct : Pg Int → Bool
  | .ret _ => false
  | .act _ _ => true
def goingN (ps : List (Pg Int)) : List Nat := (List.range ps.length).filter fun i => (ps[i]?.map isAct).getD false
section
variable {W : Wd} {S : Sto} {st : Stt} {T : List Nat} {rules : List Rule} {ds : List Deed} {ps : List (Pg Int)} {B n i a hh dl tl : Nat}
theorem HallR.ext {S' : Sto} (H : HallR W hh dl tl T S rules ds ps st) (x : S <+: S') : HallR W hh dl tl T S' rules ds ps st := by
  obtain ⟨E, rfl⟩ := x
  have g : ∀ {j : Nat} {o : O}, S[j]? = some o → (S ++ E)[j]? = some o := fun {j o} e => pre_get (List.prefix_append _ _) e
  refine ⟨⟨H.th.nd, H.th.l1, H.th.l2, H.th.out, fun a ha => by have := H.th.lt a ha; rw [List.length_append]; omega, H.th.w.app E, fun i a d p h1 h2 h3 => ?_, H.th.ok, H.th.pot, H.th.sp⟩, g H.o, g H.d, g H.t, H.ah, H.ad, H.ae, H.dt, H.aq, H.bd⟩
  obtain ⟨q, as, e, g1, g2, r⟩ := (H.th.th i a d p h1 h2 h3).ex
  exact ⟨q, as, e, g g1, g g2, r⟩
theorem HallR.at_ (H : HallR W hh dl tl T S rules ds ps st) {i : Nat} {p : Pg Int} (hp : ps[i]? = some p) : ∃ a d q e, T[i]? = some a ∧ ds[i]? = some d ∧ S[a]? = some (.ins "Thread" (thF (encRs rules) (enc d) q (mkOf p) e)) ∧ ∀ v, p = .ret v → e = v := by
  have l := (List.getElem?_eq_some_iff.mp hp).1
  have h1 := H.th.l1
  have h2 := H.th.l2
  have ta : T[i]? = some (T[i]'(by omega)) := List.getElem?_eq_getElem _
  have da : ds[i]? = some (ds[i]'(by omega)) := List.getElem?_eq_getElem _
  obtain ⟨q, as, e, g1, _, _, g2, _⟩ := (H.th.th i _ _ p ta da hp).ex
  exact ⟨_, _, q, e, ta, da, g1, g2⟩
end
end DL
namespace DL
open PySem
open KS (rise tLt ord_tup mem_rise Rising)
section
end
end DL
namespace DL
open PySem
def AptL : List (Pg Int) → Prop
  | [] => True
  | p :: r => (∃ A, p.In A ∧ ∀ q ∈ r, ∃ B, q.In B ∧ Apt A B) ∧ AptL r
theorem AptL.of {l : List Rule} (ho : okRs l) : ∀ {ds : List Deed}, (∀ d ∈ ds, okD (szs l) [] d) → ds.Pairwise (fun d e => Apt (· ∈ mkD (rmk l) d) (· ∈ mkD (rmk l) e)) → AptL (ds.map (tree l))
  | [], _, _ => trivial
  | d :: ds, hd, pw => by
    obtain ⟨h1, h2⟩ := List.pairwise_cons.mp pw
    refine ⟨⟨_, tree_in ho (hd d List.mem_cons_self), fun q hq => ?_⟩, AptL.of ho (fun e he => hd e (List.mem_cons_of_mem _ he)) h2⟩
    obtain ⟨e, he, rfl⟩ := List.mem_map.mp hq
    exact ⟨_, tree_in ho (hd e (List.mem_cons_of_mem _ he)), h1 e he⟩
end DL
namespace DL
open PySem
section
end
end DL
namespace DL
open PySem
open KS (rise tLt ord_tup mem_rise Rising)
structure Kpt (n : Nat) (s t : Stt) : Prop where
  k : t.kept = s.kept
  q : t.asked = s.asked
  m : t.many = s.many
  sp : t.spoken = s.spoken
  l : s.cells.length ≤ t.cells.length
  c : ∀ i < n, t.cells[i]? = s.cells[i]?
theorem Kpt.refl {n : Nat} {s : Stt} : Kpt n s s := ⟨rfl, rfl, rfl, rfl, Nat.le_refl _, fun _ _ => rfl⟩
theorem Kpt.trans {n : Nat} {s t u : Stt} (a : Kpt n s t) (b : Kpt n t u) : Kpt n s u := ⟨b.k.trans a.k, b.q.trans a.q, b.m.trans a.m, b.sp.trans a.sp, Nat.le_trans a.l b.l, fun i hi => (b.c i hi).trans (a.c i hi)⟩
theorem Kpt.push {n : Nat} {s : Stt} (h : n ≤ s.cells.length) (v : Int) : Kpt n s (s.push v) := ⟨rfl, rfl, rfl, rfl, by simp [Stt.push], fun i hi => by
  show (s.cells ++ [v])[i]? = _
  rw [List.getElem?_append_left (by omega)]⟩
theorem Kpt.setC {n : Nat} {s : Stt} {i : Nat} (h : n ≤ i) (v : Int) : Kpt n s (s.setC i v) := ⟨rfl, rfl, rfl, rfl, by simp [Stt.setC], fun j hj => by
  show (s.cells.set i v)[j]? = _
  rw [List.getElem?_set_ne (by omega)]⟩
def KpN (n : Nat) (t : Thk) : Prop := ∀ st, n ≤ st.cells.length → Kpt n st (t st).2
theorem KpN.iter {n : Nat} {t : Thk} (h : KpN n t) : ∀ (m : Nat) (st : Stt), n ≤ st.cells.length → Kpt n st (iterT t m st)
  | 0, st, _ => .refl
  | m + 1, st, hl => (h st hl).trans (KpN.iter h m _ (Nat.le_trans hl (h st hl).l))
section
end
end DL
namespace DL
open PySem
open KS (rise tLt ord_tup mem_rise Rising)
structure Lk (f : List Nat) (s t : Stt) : Prop where
  k : s.kept = t.kept
  q : s.asked = t.asked
  m : s.many = t.many
  sp : s.spoken = t.spoken
  len : f.length = t.cells.length
  nd : f.Nodup
  c : ∀ i j : Nat, f[i]? = some j → s.cells[j]? = t.cells[i]?
theorem pfx_get {f g : List Nat} (h : f <+: g) {i j : Nat} (e : f[i]? = some j) : g[i]? = some j := by
  obtain ⟨r, rfl⟩ := h
  rw [List.getElem?_append_left (List.getElem?_eq_some_iff.mp e).1]
  exact e
theorem Lk.lt {f : List Nat} {s t : Stt} (h : Lk f s t) {i j : Nat} (e : f[i]? = some j) : j < s.cells.length := by
  have e2 := h.c i j e
  have hi : i < t.cells.length := by rw [← h.len]; exact (List.getElem?_eq_some_iff.mp e).1
  rw [List.getElem?_eq_getElem hi] at e2
  exact (List.getElem?_eq_some_iff.mp e2).1
theorem Lk.push {f : List Nat} {s t : Stt} (h : Lk f s t) (v : Int) : Lk (f ++ [s.cells.length]) (s.push v) (t.push v) := by
  have nin : s.cells.length ∉ f := fun m => by
    obtain ⟨i, e⟩ := List.getElem?_of_mem m
    exact absurd (h.lt e) (Nat.lt_irrefl _)
  refine ⟨h.k, h.q, h.m, h.sp, ?_, ?_, fun i j e => ?_⟩
  · simp [Stt.push, h.len]
  · rw [List.nodup_append]
    refine ⟨h.nd, by simp, fun a ha b hb e => ?_⟩
    rw [List.mem_singleton] at hb
    subst e hb
    exact nin ha
  · show (s.cells ++ [v])[j]? = (t.cells ++ [v])[i]?
    by_cases q : i < f.length
    · rw [List.getElem?_append_left q] at e
      rw [List.getElem?_append_left (h.lt e), List.getElem?_append_left (by rw [← h.len]; exact q)]
      exact h.c i j e
    · have hi : i = f.length := by
        have := (List.getElem?_eq_some_iff.mp e).1
        simp at this
        omega
      subst hi
      rw [List.getElem?_append_right (Nat.le_refl _), Nat.sub_self] at e
      cases e
      rw [h.len]
      simp
theorem nd_inj {f : List Nat} (h : f.Nodup) {i i2 j : Nat} (e : f[i]? = some j) (e2 : f[i2]? = some j) : i = i2 := by
  have hi := (List.getElem?_eq_some_iff.mp e).1
  exact (List.getElem?_inj hi h).mp (e.trans e2.symm)
theorem Lk.setC {f : List Nat} {s t : Stt} (h : Lk f s t) {i j : Nat} (e : f[i]? = some j) (v : Int) : Lk f (s.setC j v) (t.setC i v) := by
  refine ⟨h.k, h.q, h.m, h.sp, by simp [Stt.setC, h.len], h.nd, fun i2 j2 e2 => ?_⟩
  show (s.cells.set j v)[j2]? = (t.cells.set i v)[i2]?
  by_cases q : i = i2
  · subst q
    have : j = j2 := by rw [e] at e2; cases e2; rfl
    subst this
    rw [List.getElem?_set_self (h.lt e), List.getElem?_set_self (by rw [← h.len]; exact (List.getElem?_eq_some_iff.mp e).1)]
  · have : j ≠ j2 := fun z => q (nd_inj h.nd e (z ▸ e2))
    rw [List.getElem?_set_ne this, List.getElem?_set_ne q]
    exact h.c i2 j2 e2
theorem Lk.act {f : List Nat} {s t : Stt} (h : Lk f s t) (m : Tch) : (actT m s).1 = (actT m t).1 ∧ Lk f (actT m s).2 (actT m t).2 := by
  obtain ⟨h1, h2, h3, h4, h5, h6, h7⟩ := h
  cases m with
  | ask => exact ⟨by show (s.asked[s.many]?).getD 0 = (t.asked[t.many]?).getD 0; rw [h2, h3], h1, h2, by show s.many + 1 = t.many + 1; rw [h3], h4, h5, h6, h7⟩
  | read x => exact ⟨by show s.kept x = t.kept x; rw [h1], h1, h2, h3, h4, h5, h6, h7⟩
  | wrt x v => exact ⟨rfl, by show (fun y => if y = x then v else s.kept y) = fun y => if y = x then v else t.kept y; rw [h1], h2, h3, h4, h5, h6, h7⟩
  | say v => exact ⟨rfl, h1, h2, h3, by show s.spoken ++ [v] = t.spoken ++ [v]; rw [h4], h5, h6, h7⟩
def TR (f : List Nat) (t t' : Thk) : Prop := ∀ g, f <+: g → ∀ s s', Lk g s s' → (t s).1 = (t' s').1 ∧ ∃ h, g <+: h ∧ Lk h (t s).2 (t' s').2
theorem TR.mono {f g : List Nat} {t t' : Thk} (h : TR f t t') (fg : f <+: g) : TR g t t' := fun e ge => h e (fg.trans ge)
inductive EvTR (f : List Nat) : Option EV → Option EV → Prop
  | non : EvTR f none none
  | int (v : Int) : EvTR f (some (.int v)) (some (.int v))
  | cell {i j : Nat} : f[i]? = some j → EvTR f (some (.cell j)) (some (.cell i))
  | th {t t' : Thk} : TR f t t' → EvTR f (some (.th t)) (some (.th t'))
theorem EvTR.mono {f g : List Nat} {a b : Option EV} (h : EvTR f a b) (fg : f <+: g) : EvTR g a b := by
  cases h with
  | non => exact .non
  | int v => exact .int v
  | cell e => exact .cell (pfx_get fg e)
  | th p => exact .th (p.mono fg)
def EnTR (f : List Nat) (ws : List Str) (env env' : Ev) : Prop := ∀ x ∈ ws, EvTR f (env x) (env' x)
theorem EnTR.mono {f g : List Nat} {ws : List Str} {env env' : Ev} (h : EnTR f ws env env') (fg : f <+: g) : EnTR g ws env env' := fun x hx => (h x hx).mono fg
theorem EnTR.sub {f : List Nat} {ws vs : List Str} {env env' : Ev} (h : EnTR f ws env env') (s : ∀ x ∈ vs, x ∈ ws) : EnTR f vs env env' := fun x hx => h x (s x hx)
theorem EnTR.put {f : List Nat} {ws : List Str} {env env' : Ev} {x : Str} {v v' : EV} (h : EnTR f ws env env') (r : EvTR f (some v) (some v')) : EnTR f ws (putE x v env) (putE x v' env') := fun y hy => by
  unfold putE
  split
  · exact r
  · exact h y hy
theorem TR.ret {f : List Nat} (v : Int) : TR f (fun st => (v, st)) (fun st => (v, st)) := fun g fg s s' L => ⟨rfl, g, List.prefix_rfl, L⟩
theorem TR.act {f : List Nat} (m : Tch) : TR f (actT m) (actT m) := fun g fg s s' L => ⟨(L.act m).1, g, List.prefix_rfl, (L.act m).2⟩
theorem TR.bind {f : List Nat} {t t' : Thk} {k k' : Int → Thk} (ht : TR f t t') (hk : ∀ v g, f <+: g → TR g (k v) (k' v)) : TR f (fun st => k (t st).1 (t st).2) (fun st => k' (t' st).1 (t' st).2) := fun g fg s s' L => by
  obtain ⟨e, h, gh, L2⟩ := ht g fg s s' L
  obtain ⟨e2, h2, hh, L3⟩ := hk (t s).1 h (fg.trans gh) h List.prefix_rfl _ _ L2
  show (k (t s).1 (t s).2).1 = (k' (t' s').1 (t' s').2).1 ∧ ∃ h, g <+: h ∧ Lk h (k (t s).1 (t s).2).2 (k' (t' s').1 (t' s').2).2
  rw [← e]
  exact ⟨e2, h2, gh.trans hh, L3⟩
theorem TR.iter {f : List Nat} {t t' : Thk} (ht : TR f t t') : ∀ n : Nat, TR f (fun st => (0, iterT t n st)) (fun st => (0, iterT t' n st))
  | 0 => TR.ret 0
  | n + 1 => TR.bind (k := fun _ st => (0, iterT t n st)) (k' := fun _ st => (0, iterT t' n st)) ht fun _ g fg => (TR.iter ht n).mono fg
section
end
end DL
namespace DL
open PySem
open KS (rise tLt ord_tup mem_rise Rising)
inductive LeL : List Int → List Int → Prop
  | nil : LeL [] []
  | cons {a b : Int} {as bs : List Int} : 1 ≤ a → a ≤ b → LeL as bs → LeL (a :: as) (b :: bs)
theorem LeL.sum {as bs : List Int} (h : LeL as bs) : 0 ≤ as.sum ∧ as.sum ≤ bs.sum := by
  induction h with
  | nil => simp
  | cons h1 h2 _ ih => simp only [List.sum_cons]; omega
section
end
end DL
namespace DL
open PySem
open KS (rise tLt sLt ord_tup ord_str mem_rise Rising)
section
end
section
end
end DL
namespace DL
open PySem L2
open Classical in
def mayG (rs : List Rule) (d e : Deed) : Bool := decide (clashM (mkD (rmk rs) d) (mkD (rmk rs) e) = [])
section
variable {W : Wd} {S : Sto} {st : Stt} {T : List Nat} {rs : List Rule} {ds : List Deed} {ps : List (Pg Int)} {B n i a hh dl tl : Nat} {e : Deed}
def waitsN (rs : List Rule) (ds : List Deed) (ps : List (Pg Int)) (e : Deed) : List Nat := (goingN ps).filter fun i => !((ds[i]?.map fun d => mayG rs d e).getD false)
theorem going_lt {i : Nat} (h : i ∈ goingN ps) : i < ps.length := List.mem_range.mp (List.mem_filter.mp h).1
end
end DL
namespace DL
open PySem L2
section
end
end DL
namespace DL
open PySem L2
section
end
end DL
namespace DL
open PySem L2
theorem eqH {Φ : Nat → Prop} {S : Sto} {d e : D} {t u : T} {b : Bool} (r : Rd Φ S d t) (r' : Rd Φ S e u) (h : qEq t u = .ok (.bl b)) : oEq d e S = .ok (.bl b) S := by
  unfold oEq
  rw [dEq_T r r']
  unfold qEq at h
  cases e : eqT t u with
  | some c =>
    rw [e] at h
    injection h with h
    injection h with h
    rw [h]
  | none => rw [e] at h; cases h
theorem neH {Φ : Nat → Prop} {S : Sto} {d e : D} {t u : T} {b : Bool} (r : Rd Φ S d t) (r' : Rd Φ S e u) (h : qNe t u = .ok (.bl b)) : oNe d e S = .ok (.bl b) S := by
  unfold oNe
  rw [dEq_T r r']
  unfold qNe at h
  cases e : eqT t u with
  | some c =>
    rw [e] at h
    injection h with h
    injection h with h
    rw [← h]
  | none => rw [e] at h; cases h
section
end
end DL
namespace DL
open PySem L2
section
end
end DL
namespace DL
open PySem L2
section
end
end DL
namespace DL
open PySem L2
theorem going_at {ps : List (Pg Int)} {i : Nat} (h : i ∈ goingN ps) : ∃ m f, ps[i]? = some (.act m f) := by
  obtain ⟨h1, h2⟩ := List.mem_filter.mp h
  have hl := List.mem_range.mp h1
  cases hp : ps[i]? with
  | none => rw [hp] at h2; cases h2
  | some p =>
    rw [hp] at h2
    cases p with
    | ret v => cases h2
    | act m f => exact ⟨m, f, rfl⟩
section
end
end DL
namespace DL
open PySem L2
section
end
end DL
namespace DL
open PySem L2
section
end
end DL
namespace DL
open PySem L2
section
variable {W : Wd} {Ts : List Nat} {rs : List Rule} {ds : List Deed} {B n hh dl tl num : Nat}
def InnL (ps ps' : List (Pg Int)) : Prop := ∀ (i : Nat) (p' : Pg Int), ps'[i]? = some p' → ∃ p, ps[i]? = some p ∧ ∀ A : Mk → Prop, p.In A → p'.In A
theorem InnL.refl {ps : List (Pg Int)} : InnL ps ps := fun i p h => ⟨p, h, fun _ x => x⟩
theorem InnL.trans {ps ps' ps'' : List (Pg Int)} (a : InnL ps ps') (b : InnL ps' ps'') : InnL ps ps'' := fun i p h => by
  obtain ⟨p1, h1, k1⟩ := b i p h
  obtain ⟨p2, h2, k2⟩ := a i p1 h1
  exact ⟨p2, h2, fun A x => k1 A (k2 A x)⟩
end
end DL
namespace DL
open PySem L2
section
end
end DL
namespace DL
open PySem L2
theorem going_iff {ps : List (Pg Int)} {j : Nat} : j ∈ goingN ps ↔ ∃ m f, ps[j]? = some (.act m f) := by
  refine ⟨going_at, fun ⟨m, f, h⟩ => List.mem_filter.mpr ⟨List.mem_range.mpr (List.getElem?_eq_some_iff.mp h).1, ?_⟩⟩
  rw [h]
  rfl
section
end
end DL
namespace DL
open PySem L2
theorem AptL.mk : ∀ (ps : List (Pg Int)) (f : Nat → Mk → Prop), (∀ (i : Nat) (p : Pg Int), ps[i]? = some p → p.In (f i)) → (∀ i j, i < j → j < ps.length → Apt (f i) (f j)) → AptL ps
  | [], f, h1, h2 => trivial
  | p :: r, f, h1, h2 => by
    refine ⟨⟨f 0, h1 0 p rfl, fun q hq => ?_⟩, AptL.mk r (fun i => f (i + 1)) (fun i p h => h1 (i + 1) p h) (fun i j hij hj => h2 (i + 1) (j + 1) (by omega) (by simp; omega))⟩
    obtain ⟨j, hj, rfl⟩ := List.mem_iff_getElem.mp hq
    exact ⟨f (j + 1), h1 (j + 1) _ (by rw [List.getElem?_cons_succ, List.getElem?_eq_getElem hj]), h2 0 (j + 1) (by omega) (by simp; omega)⟩
theorem Apt.mono {A B A' B' : Mk → Prop} (h : Apt A' B') (ha : ∀ m, A m → A' m) (hb : ∀ m, B m → B' m) : Apt A B :=
  ⟨fun x hx => ⟨fun z => (h.w x (ha _ hx)).1 (hb _ z), fun z => (h.w x (ha _ hx)).2 (hb _ z)⟩, fun x hx z => h.r x (hb _ hx) (ha _ z), fun q => h.s ⟨ha _ q.1, hb _ q.2⟩, fun q => h.a ⟨ha _ q.1, hb _ q.2⟩⟩
theorem Apt.none {A B : Mk → Prop} (h : (∀ m, ¬ A m) ∨ (∀ m, ¬ B m)) : Apt A B := by
  rcases h with h | h
  · exact ⟨fun x hx => (h _ hx).elim, fun x _ z => h _ z, fun q => h _ q.1, fun q => h _ q.1⟩
  · exact ⟨fun x _ => ⟨h _, h _⟩, fun x hx => (h _ hx).elim, fun q => h _ q.2, fun q => h _ q.2⟩
structure AInv (rs : List Rule) (ds : List Deed) (ps : List (Pg Int)) : Prop where
  len : ps.length = ds.length
  ins : ∀ (i : Nat) (p : Pg Int) (d : Deed), ps[i]? = some p → ds[i]? = some d → p.In (· ∈ mkD (rmk rs) d)
  may : ∀ (i j : Nat) (d e : Deed), i < j → i ∈ goingN ps → j ∈ goingN ps → ds[i]? = some d → ds[j]? = some e → mayG rs d e = true
theorem AInv.apt {rs : List Rule} {ds : List Deed} {ps : List (Pg Int)} (H : AInv rs ds ps) : AptL ps := by
  refine AptL.mk ps (fun i m => i ∈ goingN ps ∧ ∃ d, ds[i]? = some d ∧ m ∈ mkD (rmk rs) d) (fun i p hp => ?_) (fun i j hij hj => ?_)
  · have hl := (List.getElem?_eq_some_iff.mp hp).1
    have hd : ds[i]? = some (ds[i]'(by rw [← H.len]; exact hl)) := List.getElem?_eq_getElem _
    have hin := H.ins i p _ hp hd
    cases p with
    | ret v => trivial
    | act m f =>
      have hg : i ∈ goingN ps := going_iff.mpr ⟨m, f, hp⟩
      exact Pg.In.mono (fun m hm => ⟨hg, _, hd, hm⟩) hin
  · by_cases hi : i ∈ goingN ps
    · by_cases hj' : j ∈ goingN ps
      · have hd : ds[i]? = some (ds[i]'(by rw [← H.len]; omega)) := List.getElem?_eq_getElem _
        have he : ds[j]? = some (ds[j]'(by rw [← H.len]; omega)) := List.getElem?_eq_getElem _
        have my := H.may i j _ _ hij hi hj' hd he
        unfold mayG at my
        have ap := clash_apt (of_decide_eq_true my)
        refine ap.mono (fun m hm => ?_) (fun m hm => ?_)
        · obtain ⟨_, d', hd', hm⟩ := hm
          rw [hd] at hd'
          rw [Option.some.inj hd']
          exact hm
        · obtain ⟨_, d', hd', hm⟩ := hm
          rw [he] at hd'
          rw [Option.some.inj hd']
          exact hm
      · exact Apt.none (.inr fun m hm => hj' hm.1)
    · exact Apt.none (.inl fun m hm => hi hm.1)
end DL
namespace DL
open PySem L2
theorem enc_nint (d : Deed) (x : Int) : enc d ≠ .int x := by
  cases d with
  | two w a b => intro h; cases h
  | _ => intro h; cases h
section
variable {W : Wd} {S : Sto} {st : Stt} {T : List Nat} {rs : List Rule} {ds : List Deed} {ps : List (Pg Int)} {hh dl tl kd : Nat}
theorem HallR.off (H : HallR W hh dl tl T S rs ds ps st) {es : List Deed} (hk : S[kd]? = some (.lst (es.map enc))) (he : es ≠ []) : ∀ a ∈ T, ∀ r d q m e, S[a]? = some (.ins "Thread" (thF r d q m e)) → q ≠ kd := fun a ha r d q m e hg => by
  obtain ⟨i, hi⟩ := List.getElem?_of_mem ha
  have hil := (List.getElem?_eq_some_iff.mp hi).1
  have l1 := H.th.l1
  have l2 := H.th.l2
  obtain ⟨q', as, e', g1, g2, _⟩ := (H.th.th i a _ _ hi (List.getElem?_eq_getElem (by omega)) (List.getElem?_eq_getElem (by omega))).ex
  rw [hg] at g1
  have : q = q' := by
    have := O.ins.inj (Option.some.inj g1)
    simp only [thF, List.cons.injEq, Prod.mk.injEq, D.ref.injEq, true_and, and_true] at this
    simp_all
  subst this
  rintro rfl
  rw [hk] at g2
  cases es with
  | nil => exact he rfl
  | cons d es =>
    cases as with
    | nil => cases g2
    | cons x as =>
      have := O.lst.inj (Option.some.inj g2)
      simp only [List.map_cons, List.cons.injEq] at this
      exact enc_nint d x this.1
end
theorem AInv.nil {rs : List Rule} : AInv rs [] [] := ⟨rfl, fun i p d h => by simp at h, fun i j d e _ _ _ h => by simp at h⟩
theorem AInv.more {rs : List Rule} {ds : List Deed} {ps : List (Pg Int)} {e : Deed} (H : AInv rs ds ps) (ho : okRs rs) (he : okD (szs rs) [] e) (hw : waitsN rs ds ps e = []) : AInv rs (ds ++ [e]) (ps ++ [tree rs e]) := by
  have l := H.len
  have old : ∀ {i : Nat}, i ∈ goingN (ps ++ [tree rs e]) → i < ps.length → i ∈ goingN ps := fun {i} h hl => by
    obtain ⟨m, f, h⟩ := going_iff.mp h
    rw [List.getElem?_append_left hl] at h
    exact going_iff.mpr ⟨m, f, h⟩
  refine ⟨by simp [l], fun i p d hp hd => ?_, fun i j d g hij hi hj hd hg => ?_⟩
  · by_cases hl : i < ps.length
    · rw [List.getElem?_append_left hl] at hp
      rw [List.getElem?_append_left (by omega)] at hd
      exact H.ins i p d hp hd
    · have hi := (List.getElem?_eq_some_iff.mp hp).1
      simp at hi
      have : i = ps.length := by omega
      subst this
      rw [List.getElem?_append_right (Nat.le_refl _)] at hp
      rw [List.getElem?_append_right (by omega)] at hd
      simp at hp
      rw [l] at hd
      simp at hd
      subst hp
      subst hd
      exact tree_in ho he
  · have hjl := going_lt hj
    simp at hjl
    have hil : i < ps.length := by omega
    have hi' := old hi hil
    rw [List.getElem?_append_left (by omega)] at hd
    by_cases hl : j < ps.length
    · rw [List.getElem?_append_left (by omega)] at hg
      exact H.may i j d g hij hi' (old hj hl) hd hg
    · have : j = ps.length := by omega
      subst this
      rw [l, List.getElem?_append_right (Nat.le_refl _)] at hg
      simp at hg
      subst hg
      have := List.filter_eq_nil_iff.mp hw i hi'
      rw [hd] at this
      simpa using this
theorem AInv.all {rs : List Rule} {ds : List Deed} {ps : List (Pg Int)} (H : AInv rs ds ps) : ∃ gs : List Deed, gs.length = (goingN ps).length ∧ (∀ (j i : Nat), (goingN ps)[j]? = some i → ∃ d, ds[i]? = some d ∧ gs[j]? = some d) ∧ allMayM (gs.map fun d => mkD (rmk rs) d) = true := by
  have nd : (goingN ps).Pairwise (· < ·) := List.Pairwise.filter _ List.pairwise_lt_range
  have key : ∀ l : List Nat, (∀ i ∈ l, i ∈ goingN ps) → l.Pairwise (· < ·) → ∃ gs : List Deed, gs.length = l.length ∧ (∀ (j i : Nat), l[j]? = some i → ∃ d, ds[i]? = some d ∧ gs[j]? = some d) ∧ allMayM (gs.map fun d => mkD (rmk rs) d) = true := by
    intro l
    induction l with
    | nil => exact fun _ _ => ⟨[], rfl, fun j i h => by simp at h, rfl⟩
    | cons i l ih =>
      intro hl hp
      obtain ⟨gs, g1, g2, g3⟩ := ih (fun i hi => hl i (List.mem_cons_of_mem _ hi)) (List.pairwise_cons.mp hp).2
      have hi := hl i List.mem_cons_self
      have hil : i < ds.length := by rw [← H.len]; exact going_lt hi
      have hd : ds[i]? = some ds[i] := List.getElem?_eq_getElem hil
      refine ⟨ds[i] :: gs, by simp [g1], fun j k h => ?_, ?_⟩
      · cases j with
        | zero =>
          simp at h
          subst h
          exact ⟨_, hd, rfl⟩
        | succ j =>
          simp at h
          obtain ⟨d, h1, h2⟩ := g2 j k h
          exact ⟨d, h1, by simpa using h2⟩
      · show (_ && _) = true
        rw [g3, Bool.and_true, List.all_eq_true]
        intro x hx
        obtain ⟨g, hg, rfl⟩ := List.mem_map.mp hx
        obtain ⟨j, hj, hgj⟩ := List.mem_iff_getElem.mp hg
        have hjl : j < l.length := by omega
        have hlj : l[j]? = some l[j] := List.getElem?_eq_getElem hjl
        obtain ⟨d, h1, h2⟩ := g2 j _ hlj
        rw [List.getElem?_eq_getElem hj, hgj] at h2
        cases h2
        have lt := (List.pairwise_cons.mp hp).1 l[j] (List.getElem_mem hjl)
        have := H.may i l[j] _ _ lt hi (hl _ (List.mem_cons_of_mem _ (List.getElem_mem hjl))) hd h1
        exact this
  exact key _ (fun _ h => h) nd
end DL
namespace DL
open PySem L2
section
end
end DL
namespace DL
open PySem L2
def waF (L : Pa) (k : Nat) (w : D) : List (Key × D) := [(.inr "place", .int k), (.inr "answers", .ref L.ans), (.inr "wanted", w), (.inr "cells", .ref L.cells)]
structure RepW (L : Pa) (S : Sto) (as : List Int) (k : Nat) (cs : List Int) : Prop where
  run : S[L.run]? = some (.dct (waF L k .non))
  ans : S[L.ans]? = some (.lst (as.map .int))
  cells : S[L.cells]? = some (.lst (cs.map .int))
  le : k ≤ as.length
def SimW (L : Pa) (as : List Int) (S : Sto) (k lo : Nat) (hi : Int) (x : R D) (p : Pg (Int × List Int)) : Prop := match rp p as k with
  | .inl q => ∃ S', x = .ok (.int q.2.1) S' ∧ RepW L S' as q.1 q.2.2 ∧ FrA L S S' ∧ lo ≤ q.2.2.length ∧ (q.2.2.length : Int) ≤ hi
  | .inr m => ∃ S' k', x = .ok .non S' ∧ FrA L S S' ∧ S'[L.run]? = some (.dct (waF L k' (tchD m)))
section
variable {L : Pa} {as : List Int} {S : Sto} {k lo lo1 : Nat} {hi hi1 : Int} {x x' : R D} {p : Pg (Int × List Int)} {cs : List Int}
theorem SimW.mono (h : SimW L as S k lo1 hi1 x p) (h1 : lo ≤ lo1) (h2 : hi1 ≤ hi) : SimW L as S k lo hi x p := by
  unfold SimW at h ⊢
  cases e : rp p as k with
  | inl q =>
    rw [e] at h
    obtain ⟨S', a, b, c, d, f⟩ := h
    exact ⟨S', a, b, c, by omega, by omega⟩
  | inr m => rw [e] at h; exact h
theorem RepW.setC (R : RepW L S as k cs) (ap : ApA L) (cs' : List Int) : RepW L (S.set L.cells (.lst (cs'.map .int))) as k cs' :=
  ⟨gset R.run (Ne.symm ap.rc), gset R.ans (Ne.symm ap.ca), gsame R.cells, R.le⟩
theorem RepW.app (R : RepW L S as k cs) (E : Sto) : RepW L (S ++ E) as k cs :=
  ⟨by rw [List.getElem?_append_left (List.getElem?_eq_some_iff.mp R.run).1]; exact R.run, by rw [List.getElem?_append_left (List.getElem?_eq_some_iff.mp R.ans).1]; exact R.ans, by rw [List.getElem?_append_left (List.getElem?_eq_some_iff.mp R.cells).1]; exact R.cells, R.le⟩
theorem RepW.ir (R : RepW L S as k cs) : L.run < S.length := (List.getElem?_eq_some_iff.mp R.run).1
theorem RepW.ic (R : RepW L S as k cs) : L.cells < S.length := (List.getElem?_eq_some_iff.mp R.cells).1
end
def ImW (L : Pa) (as : List Int) (S0 : Sto) (c : Nat) (t : PT) (N : Int) (p : D) (r m : Nat) : Prop :=
  ∀ n, m ≤ n → ∀ S k cs, FrA L S0 S → RepW L S as k cs → c ≤ cs.length → (cs.length : Int) + N ≤ 100000 → SimW L as S k cs.length (cs.length + N) (csem n .f__law_worth [L.rules, p, .ref r, .ref L.run] S) (t cs)
theorem ImW.up {L : Pa} {as : List Int} {S S' : Sto} {c c' : Nat} {t : PT} {N N' : Int} {p : D} {r m m' : Nat} (h : ImW L as S c t N p r m) (f : FrA L S S') (hc : c ≤ c') (hN : N ≤ N') (hm : m ≤ m') : ImW L as S' c' t N' p r m' :=
  fun n hn S1 k cs f1 R hk hr => (h n (Nat.le_trans hm hn) S1 k cs (f.trans f1) R (Nat.le_trans hc hk) (by omega)).mono (Nat.le_refl _) (by omega)
def EvW (L : Pa) (as : List Int) (S : Sto) (c m : Nat) (hw : Str → Int) (x : Str) (v : PEV) (o : Option D) : Prop := match v with
  | .int v => o = some (.int v) ∧ kd x = 1
  | .cell i => o = some (.int (i : Int)) ∧ kd x = 2 ∧ i < c
  | .th t => (∃ p r, o = some (.tup [p, .ref r]) ∧ ImW L as S c t (hw x) p r m) ∧ kd x = 3
structure EnW (L : Pa) (as : List Int) (S : Sto) (c r m b : Nat) (hw : Str → Int) (env : PEn) (K : List Str) : Prop where
  d : ∃ kvs, S[r]? = some (.dct kvs) ∧ kvs.length ≤ b ∧ ∀ x, match env x with
    | none => valD kvs (.inr x) = none
    | some v => EvW L as S c m hw x v (valD kvs (.inr x))
  r : r ≠ L.run ∧ r ≠ L.cells
  k : ∀ x ∈ K, env x ≠ none
theorem EvW.up {L : Pa} {as : List Int} {S S' : Sto} {c c' m : Nat} {hw : Str → Int} {x : Str} {v : PEV} {o : Option D} (h : EvW L as S c m hw x v o) (f : FrA L S S') (hc : c ≤ c') : EvW L as S' c' m hw x v o := by
  cases v with
  | int v => exact h
  | cell i => exact ⟨h.1, h.2.1, Nat.lt_of_lt_of_le h.2.2 hc⟩
  | th t =>
    obtain ⟨⟨p, r, e, i⟩, k⟩ := h
    exact ⟨⟨p, r, e, i.up f hc (Int.le_refl _) (Nat.le_refl _)⟩, k⟩
theorem EnW.up {L : Pa} {as : List Int} {S S' : Sto} {c c' r m b : Nat} {hw : Str → Int} {env : PEn} {K : List Str} (h : EnW L as S c r m b hw env K) (f : FrA L S S') (hc : c ≤ c') : EnW L as S' c' r m b hw env K := by
  obtain ⟨⟨kvs, e, hl, hx⟩, hr, hk⟩ := h
  refine ⟨⟨kvs, f.keep _ _ hr.1 hr.2 e, hl, fun x => ?_⟩, hr, hk⟩
  have := hx x
  cases q : env x with
  | none => rw [q] at this; exact this
  | some v => rw [q] at this; exact this.up f hc
section
variable {L : Pa} {as : List Int} {S S0 : Sto} {k : Nat} {cs : List Int} {ε : Env} {c r m n b M : Nat} {hw : Str → Int} {env : PEn} {K : List Str} {x : Str} {N Na Nb Nc : Int} {t : PT} {p : D} {rs : List PRS}
theorem EnW.get (h : EnW L as S c r m b hw env K) (hx : x ∈ K) : ∃ v kvs, env x = some v ∧ S[r]? = some (.dct kvs) ∧ EvW L as S c m hw x v (valD kvs (.inr x)) := by
  obtain ⟨⟨kvs, e, _, q⟩, _, hk⟩ := h
  have := q x
  cases e2 : env x with
  | none => exact absurd e2 (hk x hx)
  | some v => rw [e2] at this; exact ⟨v, kvs, rfl, e, this⟩
theorem EnW.none (h : EnW L as S c r m b hw env K) (hx : x ∈ abcd) : env x = none ∧ ∃ kvs, S[r]? = some (.dct kvs) ∧ valD kvs (.inr x) = none := by
  obtain ⟨⟨kvs, e, _, q⟩, _, _⟩ := h
  have := q x
  have k0 := kd_abcd x hx
  cases e2 : env x with
  | none => rw [e2] at this; exact ⟨rfl, kvs, e, this⟩
  | some v =>
    rw [e2] at this
    cases v with
    | int v => have := this.2; omega
    | cell i => have := this.2.1; omega
    | th t => have := this.2; omega
theorem EnW.put (E : EnW L as S c r m b hw env K) {S' : Sto} (f : FrA L S S') (ir : L.run < S'.length) (ic : L.cells < S'.length) {kvs : List (Key × D)} (hk : S[r]? = some (.dct kvs)) {c' : Nat} (hc : c ≤ c') {kvs' : List (Key × D)} (hl : kvs'.length ≤ b + 1) (hv : ∀ y, valD kvs' (.inr y) = if y = x then some p else valD kvs (.inr y)) {v : PEV} (hx : EvW L as (S' ++ [.dct kvs']) c' m hw x v (some p)) :
    EnW L as (S' ++ [.dct kvs']) c' S'.length m (b + 1) hw (putP x v env) (x :: K) := by
  obtain ⟨⟨kvs0, e, hlen, q⟩, hr, hK⟩ := E
  rw [hk] at e
  cases e
  refine ⟨⟨kvs', by simp, hl, fun y => ?_⟩, ⟨by omega, by omega⟩, fun y hy => ?_⟩
  · have := q y
    rw [hv y]
    unfold putP
    by_cases e : y = x
    · subst e
      simp only [if_true]
      exact hx
    · simp only [e, if_false]
      cases h : env y with
      | none => rw [h] at this; exact this
      | some w => rw [h] at this; exact this.up (f.trans .app) hc
  · unfold putP
    rcases List.mem_cons.mp hy with e | e
    · rw [if_pos e]; simp
    · split
      · simp
      · exact hK y e
end
end DL
namespace DL
open PySem L2
section
end
end DL
namespace DL
open PySem L2
section
end
end DL
namespace DL
open PySem L2
section
end
end DL
namespace DL
open PySem L2
section
end
end DL
namespace DL
open PySem L2
def wdK (W : Wd) (m : Nat) : List (Key × D) := [(.inr "store", .ref W.kept), (.inr "asked", .ref W.asked), (.inr "many", .int m), (.inr "said", .ref W.spoken), (.inr "marks", .ref W.marks)]
structure WRepK (W : Wd) (S : Sto) (st : Stt) : Prop where
  w : S[W.w]? = some (.dct (wdK W st.many))
  kept : S[W.kept]? = some (.dct (keptD st.kept))
  spoken : S[W.spoken]? = some (.lst (st.spoken.map .int))
  marks : S[W.marks]? = some (.lst st.marks)
  asked : S[W.asked]? = some (.lst (st.asked.map .int))
section
variable {W : Wd} {S S1 S2 : Sto} {st : Stt} {ε : Env}
theorem WRepK.app (R : WRepK W S st) (E : Sto) : WRepK W (S ++ E) st := by
  have g : ∀ {n o}, S[n]? = some o → (S ++ E)[n]? = some o := fun {n o} e => pre_get (List.prefix_append _ _) e
  exact ⟨g R.w, g R.kept, g R.spoken, g R.marks, g R.asked⟩
theorem WRepK.setMarks (R : WRepK W S st) (N : WNes W) (ms : List D) : WRepK W (S.set W.marks (.lst ms)) { st with marks := ms } :=
  ⟨gset R.w N.c.symm, gset R.kept N.f.symm, gset R.spoken N.h.symm, gsame R.marks, gset R.asked N.qd⟩
theorem WRepK.setSpoken (R : WRepK W S st) (N : WNes W) (ms : List Int) : WRepK W (S.set W.spoken (.lst (ms.map .int))) { st with spoken := ms } :=
  ⟨gset R.w N.b.symm, gset R.kept N.e.symm, gsame R.spoken, gset R.marks N.h, gset R.asked N.qc⟩
theorem WRepK.setKept (R : WRepK W S st) (N : WNes W) (k : Str → Int) : WRepK W (S.set W.kept (.dct (keptD k))) { st with kept := k } :=
  ⟨gset R.w N.a.symm, gsame R.kept, gset R.spoken N.e, gset R.marks N.f, gset R.asked N.qb⟩
theorem WRepK.setMany (R : WRepK W S st) (N : WNes W) (m : Nat) : WRepK W (S.set W.w (.dct (wdK W m))) { st with many := m } :=
  ⟨gsame R.w, gset R.kept N.a, gset R.spoken N.b, gset R.marks N.c, gset R.asked N.qa⟩
end
end DL
namespace DL
open PySem L2
structure Ext (S S' : Sto) : Prop where
  len : S.length ≤ S'.length
  keep : ∀ (j : Nat) (o : O), S[j]? = some o → S'[j]? = some o
section
variable {W : Wd} {S S' : Sto} {st : Stt} {rules : List Rule} {d : Deed} {B n q : Nat} {as : List Int} {p : Pg Int} {m : Tch} {f : Int → Pg Int} {ε : Env}
theorem WRepK.ext (R : WRepK W S st) (h : Ext S S') : WRepK W S' st := ⟨h.keep _ _ R.w, h.keep _ _ R.kept, h.keep _ _ R.spoken, h.keep _ _ R.marks, h.keep _ _ R.asked⟩
end
end DL
namespace DL
open PySem L2
section
end
end DL
namespace DL
open PySem L2
structure ThsK (W : Wd) (Q : List Nat) (S : Sto) (rules : List Rule) (ds : List Deed) (ps : List (Pg Int)) (st : Stt) : Prop where
  nd : Q.Nodup
  l1 : Q.length = ds.length
  l2 : ps.length = ds.length
  out : ∀ a ∈ Q, a ∉ W.mut ∧ a ≠ W.asked
  w : WRepK W S st
  th : ∀ (i a : Nat) (d : Deed) (p : Pg Int), Q[i]? = some a → ds[i]? = some d → ps[i]? = some p → ∃ as : List Int, S[a]? = some (.lst (as.map .int)) ∧ adv (tree rules d) as = p ∧ as.length ≤ st.marks.length
  ok : ∀ p ∈ ps, p.In (okM [])
  pot : ∃ N, PotL ps N ∧ N + st.marks.length ≤ 90000
  sp : st.spoken.length ≤ st.marks.length
  mn : st.many ≤ st.marks.length
  ak : st.asked.length < 1000
section
variable {W : Wd} {S S' : Sto} {st : Stt} {Q : List Nat} {rules : List Rule} {ds : List Deed} {ps : List (Pg Int)} {B n i a : Nat} {m : Tch} {f : Int → Pg Int} {d : Deed}
theorem ThsK.ext (H : ThsK W Q S rules ds ps st) (x : Ext S S') : ThsK W Q S' rules ds ps st :=
  ⟨H.nd, H.l1, H.l2, H.out, H.w.ext x, fun i a d p h1 h2 h3 => by
    obtain ⟨as, g1, g2, g3⟩ := H.th i a d p h1 h2 h3
    exact ⟨as, x.keep _ _ g1, g2, g3⟩, H.ok, H.pot, H.sp, H.mn, H.ak⟩
end
end DL
namespace DL
open PySem L2
section
end
end DL
namespace DL
open PySem L2
section
end
theorem Ext.pre {S S' : Sto} (h : Ext S S') : S <+: S' := pre_ofT h.len fun j o hj e => h.keep j o e
theorem ext_of {S S' : Sto} (h : S <+: S') : Ext S S' := ⟨h.length_le, fun j o e => pre_get h e⟩
section
end
end DL
namespace DL
open PySem L2
structure Off (M : Nat → Prop) (S S' : Sto) : Prop where
  len : S.length ≤ S'.length
  keep : ∀ (j : Nat) (o : O), ¬ M j → S[j]? = some o → S'[j]? = some o
theorem Off.of_pre {M : Nat → Prop} {S S' : Sto} (h : S <+: S') : Off M S S' := ⟨h.length_le, fun j o _ e => pre_get h e⟩
theorem Off.trans {M : Nat → Prop} {S S' S'' : Sto} (a : Off M S S') (b : Off M S' S'') : Off M S S'' := ⟨Nat.le_trans a.len b.len, fun j o h e => b.keep j o h (a.keep j o h e)⟩
theorem Off.mono {M N : Nat → Prop} {S S' : Sto} (a : Off M S S') (h : ∀ j, M j → N j) : Off N S S' := ⟨a.len, fun j o hj e => a.keep j o (fun m => hj (h j m)) e⟩
theorem Off.set {S : Sto} (k : Nat) (o : O) : Off (fun j => j = k) S (S.set k o) := ⟨by simp, fun j x hj e => by rw [List.getElem?_set_ne (Ne.symm hj)]; exact e⟩
theorem Off.pre {M : Nat → Prop} {S S' S0 : Sto} (a : Off M S S') (h : S0 <+: S) (g : ∀ j, M j → S0.length ≤ j) : S0 <+: S' :=
  pre_ofT (by have := h.length_le; have := a.len; omega) fun j o hj e => a.keep j o (fun m => by have := g j m; omega) (pre_get h e)
def Prv (M : Nat → Prop) (S : Sto) (T : List Nat) : Prop := ∀ a ∈ T, ∀ r d q m e, S[a]? = some (.ins "Thread" (thF r d q m e)) → ¬ M q
theorem Prv.keep {M : Nat → Prop} {S S' : Sto} {T : List Nat} (P : Prv M S T) (lt : ∀ a ∈ T, a < S.length) (k : ∀ a ∈ T, ∀ o, S[a]? = some o → S'[a]? = some o) : Prv M S' T := fun a ha r d q m e h => by
  have g : S[a]? = some (S[a]'(lt a ha)) := List.getElem?_eq_getElem _
  have := k a ha _ g
  rw [h] at this
  rw [← Option.some.inj this] at g
  exact P a ha r d q m e g
theorem Prv.mono {M N : Nat → Prop} {S : Sto} {T : List Nat} (P : Prv M S T) (h : ∀ j, N j → M j) : Prv N S T := fun a ha r d q m e g n => P a ha r d q m e g (h q n)
theorem thF_q {r d m r' d' m' : D} {e e' : Int} {q q' : Nat} (h : (O.ins "Thread" (thF r d q m e)) = .ins "Thread" (thF r' d' q' m' e')) : q = q' := by
  have := O.ins.inj h
  simp only [thF, List.cons.injEq, Prod.mk.injEq, D.ref.injEq, true_and, and_true] at this
  simp_all
section
variable {W : Wd} {S S' : Sto} {st : Stt} {T Q : List Nat} {rs : List Rule} {ds : List Deed} {ps : List (Pg Int)} {hh dl tl : Nat} {M : Nat → Prop}
theorem HallR.qlt (H : HallR W hh dl tl T S rs ds ps st) : ∀ a ∈ T, ∀ r d q m e, S[a]? = some (.ins "Thread" (thF r d q m e)) → q < S.length := fun a ha r d q m e hg => by
  obtain ⟨i, hi⟩ := List.getElem?_of_mem ha
  have hil := (List.getElem?_eq_some_iff.mp hi).1
  have l1 := H.th.l1
  have l2 := H.th.l2
  obtain ⟨q', as, e', g1, g2, _⟩ := (H.th.th i a _ _ hi (List.getElem?_eq_getElem (by omega)) (List.getElem?_eq_getElem (by omega))).ex
  rw [hg] at g1
  have := thF_q (Option.some.inj g1)
  subst this
  exact (List.getElem?_eq_some_iff.mp g2).1
theorem HallR.offM (H : HallR W hh dl tl T S rs ds ps st) (f : Off M S S') (hm : ∀ j ∈ W.mut, ¬ M j) (ha : ¬ M W.asked) (hT : ∀ a ∈ T, ¬ M a) (h1 : ¬ M hh) (h2 : ¬ M dl) (h3 : ¬ M tl) (P : Prv M S T) : HallR W hh dl tl T S' rs ds ps st := by
  have w := H.th.w
  refine ⟨⟨H.th.nd, H.th.l1, H.th.l2, H.th.out, fun a ha => Nat.lt_of_lt_of_le (H.th.lt a ha) f.len, ⟨f.keep _ _ (hm _ (by simp [Wd.mut])) w.w, f.keep _ _ (hm _ (by simp [Wd.mut])) w.kept, f.keep _ _ (hm _ (by simp [Wd.mut])) w.spoken, f.keep _ _ (hm _ (by simp [Wd.mut])) w.marks, f.keep _ _ ha w.asked⟩, fun i a d p q1 q2 q3 => ?_, H.th.ok, H.th.pot, H.th.sp⟩, f.keep _ _ h1 H.o, f.keep _ _ h2 H.d, f.keep _ _ h3 H.t, H.ah, H.ad, H.ae, H.dt, H.aq, H.bd⟩
  obtain ⟨q, as, e, g1, g2, r⟩ := (H.th.th i a d p q1 q2 q3).ex
  have ha := List.mem_of_getElem? q1
  exact ⟨q, as, e, f.keep _ _ (hT a ha) g1, f.keep _ _ (P a ha _ _ _ _ _ g1) g2, r⟩
theorem ThsK.offM (K : ThsK W Q S rs ds ps st) (f : Off M S S') (hm : ∀ j ∈ W.mut, ¬ M j) (ha : ¬ M W.asked) (hQ : ∀ a ∈ Q, ¬ M a) : ThsK W Q S' rs ds ps st := by
  have w := K.w
  refine ⟨K.nd, K.l1, K.l2, K.out, ⟨f.keep _ _ (hm _ (by simp [Wd.mut])) w.w, f.keep _ _ (hm _ (by simp [Wd.mut])) w.kept, f.keep _ _ (hm _ (by simp [Wd.mut])) w.spoken, f.keep _ _ (hm _ (by simp [Wd.mut])) w.marks, f.keep _ _ ha w.asked⟩, fun i a d p q1 q2 q3 => ?_, K.ok, K.pot, K.sp, K.mn, K.ak⟩
  obtain ⟨as, g1, g2⟩ := K.th i a d p q1 q2 q3
  exact ⟨as, f.keep _ _ (hQ a (List.mem_of_getElem? q1)) g1, g2⟩
theorem ThsK.lt (K : ThsK W Q S rs ds ps st) : (∀ a ∈ Q, a < S.length) ∧ ∀ j ∈ W.mut, j < S.length := by
  refine ⟨fun a ha => ?_, fun j hj => ?_⟩
  · obtain ⟨i, hi⟩ := List.getElem?_of_mem ha
    have hil := (List.getElem?_eq_some_iff.mp hi).1
    have l1 := K.l1
    have l2 := K.l2
    obtain ⟨as, g1, _⟩ := K.th i a _ _ hi (List.getElem?_eq_getElem (by omega)) (List.getElem?_eq_getElem (by omega))
    exact (List.getElem?_eq_some_iff.mp g1).1
  · have w := K.w
    simp only [Wd.mut, List.mem_cons, List.not_mem_nil, or_false] at hj
    rcases hj with rfl | rfl | rfl | rfl
    · exact (List.getElem?_eq_some_iff.mp w.w).1
    · exact (List.getElem?_eq_some_iff.mp w.kept).1
    · exact (List.getElem?_eq_some_iff.mp w.spoken).1
    · exact (List.getElem?_eq_some_iff.mp w.marks).1
end
def HPl (W : Wd) (hh dl tl : Nat) (T : List Nat) (j : Nat) : Prop := j ∈ W.mut ∨ j = hh ∨ j = dl ∨ j = tl ∨ j ∈ T
def LPl (W : Wd) (kd ka : Nat) (Q : List Nat) (j : Nat) : Prop := j ∈ W.mut ∨ j = kd ∨ j = ka ∨ j ∈ Q
structure LayJ (S0 : Sto) (W : Wd) (hh dl tl : Nat) (W2 : Wd) (kd ka : Nat) (W3 : Wd) (h3 d3 t3 : Nat) : Prop where
  wa : WApart W
  wa2 : WApart W2
  aq : W.asked < S0.length ∧ W2.asked < S0.length ∧ W3.asked < S0.length
  kk : kd ∉ W2.mut ∧ ka ∉ W2.mut ∧ kd ≠ ka
structure HJ (S0 : Sto) (W : Wd) (hh dl tl : Nat) (W2 : Wd) (kd ka : Nat) (W3 : Wd) (h3 d3 t3 : Nat) (rs : List Rule) (s A : List Int) (S : Sto) (Ts : List Nat) (ds : List Deed) (ps : List (Pg Int)) (st : Stt) (Q : List Nat) (ds' : List Deed) (ps' : List (Pg Int)) (st' : Stt) : Prop where
  H : HallR W hh dl tl Ts S rs ds ps st
  K : ThsK W2 Q S rs ds' ps' st'
  O : HallR W3 h3 d3 t3 [] S rs [] [] (st0 s A)
  kv : S[kd]? = some (.lst (ds'.map enc))
  av : S[ka]? = some (.lst (Q.map D.ref))
  ok : ∀ d ∈ ds, okD (szs rs) [] d ∧ dep d ≤ 7 ∧ wt (rwt rs) (fun _ => 1) d ≤ 1000
  ok' : ∀ d ∈ ds', okD (szs rs) [] d ∧ dep d ≤ 7 ∧ wt (rwt rs) (fun _ => 1) d ≤ 1000
  dj : ∀ j, HPl W hh dl tl Ts j → ¬ LPl W2 kd ka Q j
  d3 : ∀ j, HPl W3 h3 d3 t3 [] j → ¬ HPl W hh dl tl Ts j ∧ ¬ LPl W2 kd ka Q j
  ge : ∀ j, HPl W hh dl tl Ts j ∨ LPl W2 kd ka Q j → S0.length ≤ j
  kq : kd ∉ Q ∧ ka ∉ Q
  prv : Prv (LPl W2 kd ka Q) S Ts
  pre : S0 <+: S
section
variable {S0 : Sto} {W W2 W3 : Wd} {hh dl tl kd ka h3 d3 t3 : Nat} {rs : List Rule} {s A : List Int} {S S' : Sto} {Ts Q : List Nat} {ds ds' : List Deed} {ps ps' : List (Pg Int)} {st st' : Stt} {n B i : Nat} {e : Deed} {m : Tch} {f : Int → Pg Int} {M : Nat → Prop}
theorem HallR.lt (H : HallR W hh dl tl Ts S rs ds ps st) : ∀ j, HPl W hh dl tl Ts j → j < S.length := fun j hj => by
  rcases hj with h | rfl | rfl | rfl | h
  · exact H.th.w.lt.1 _ h
  · exact (List.getElem?_eq_some_iff.mp H.o).1
  · exact (List.getElem?_eq_some_iff.mp H.d).1
  · exact (List.getElem?_eq_some_iff.mp H.t).1
  · exact H.th.lt _ h
theorem HJ.llt (J : HJ S0 W hh dl tl W2 kd ka W3 h3 d3 t3 rs s A S Ts ds ps st Q ds' ps' st') : ∀ j, LPl W2 kd ka Q j → j < S.length := fun j hj => by
  rcases hj with h | rfl | rfl | h
  · exact J.K.lt.2 _ h
  · exact (List.getElem?_eq_some_iff.mp J.kv).1
  · exact (List.getElem?_eq_some_iff.mp J.av).1
  · exact J.K.lt.1 _ h
theorem HJ.law (J : HJ S0 W hh dl tl W2 kd ka W3 h3 d3 t3 rs s A S Ts ds ps st Q ds' ps' st') (L : LayJ S0 W hh dl tl W2 kd ka W3 h3 d3 t3) {Q1 : List Nat} {ds1 : List Deed} {ps1 : List (Pg Int)} {st1 : Stt} (f : Off (LPl W2 kd ka Q) S S') (K : ThsK W2 Q1 S' rs ds1 ps1 st1)
    (kv : S'[kd]? = some (.lst (ds1.map enc))) (av : S'[ka]? = some (.lst (Q1.map D.ref))) (ok' : ∀ d ∈ ds1, okD (szs rs) [] d ∧ dep d ≤ 7 ∧ wt (rwt rs) (fun _ => 1) d ≤ 1000) (hQ : ∀ a ∈ Q1, a ∈ Q ∨ S.length ≤ a) :
    HJ S0 W hh dl tl W2 kd ka W3 h3 d3 t3 rs s A S' Ts ds ps st Q1 ds1 ps1 st1 := by
  have new : ∀ j, LPl W2 kd ka Q1 j → LPl W2 kd ka Q j ∨ S.length ≤ j := fun j hj => by
    rcases hj with h | h | h | h
    · exact .inl (.inl h)
    · exact .inl (.inr (.inl h))
    · exact .inl (.inr (.inr (.inl h)))
    · exact (hQ j h).imp (fun h => .inr (.inr (.inr h))) id
  have hl := J.H.lt
  have ol := J.O.lt
  have nd : ∀ {j : Nat}, HPl W hh dl tl Ts j → ¬ LPl W2 kd ka Q j := fun h => J.dj _ h
  have nda : ∀ {j : Nat}, j < S0.length → ¬ LPl W2 kd ka Q j := fun {j} h hL => by have := J.ge j (.inr hL); omega
  refine ⟨J.H.offM f (fun j h => nd (.inl h)) (nda L.aq.1) (fun a h => nd (.inr (.inr (.inr (.inr h))))) (nd (.inr (.inl rfl))) (nd (.inr (.inr (.inl rfl)))) (nd (.inr (.inr (.inr (.inl rfl))))) J.prv, K,
    J.O.offM f (fun j h => (J.d3 j (.inl h)).2) (nda L.aq.2.2) (fun a h => by cases h) (J.d3 _ (.inr (.inl rfl))).2 (J.d3 _ (.inr (.inr (.inl rfl)))).2 (J.d3 _ (.inr (.inr (.inr (.inl rfl))))).2 (fun a h => by cases h), kv, av, J.ok, ok', fun j h g => ?_, fun j h => ⟨(J.d3 j h).1, fun g => ?_⟩, fun j h => ?_, ?_, ?_, f.pre J.pre (fun j h => J.ge j (.inr h))⟩
  · rcases new j g with g | g
    · exact J.dj j h g
    · have := hl j h; omega
  · rcases new j g with g | g
    · exact (J.d3 j h).2 g
    · have := ol j h; omega
  · rcases h with h | h
    · exact J.ge j (.inl h)
    · rcases new j h with g | g
      · exact J.ge j (.inr g)
      · have := J.pre.length_le; omega
  · refine ⟨fun h => ?_, fun h => ?_⟩
    · rcases hQ _ h with g | g
      · exact J.kq.1 g
      · have := J.llt kd (.inr (.inl rfl)); omega
    · rcases hQ _ h with g | g
      · exact J.kq.2 g
      · have := J.llt ka (.inr (.inr (.inl rfl))); omega
  · have P := J.prv.keep (S' := S') J.H.th.lt fun a ha o e => f.keep a o (nd (.inr (.inr (.inr (.inr ha))))) e
    intro a ha r d q m e hg hL
    rcases new q hL with g | g
    · exact P a ha r d q m e hg g
    · have h1 : S[a]? = some (S[a]'(J.H.th.lt a ha)) := List.getElem?_eq_getElem _
      have h2 := f.keep a _ (nd (.inr (.inr (.inr (.inr ha))))) h1
      rw [hg] at h2
      rw [← Option.some.inj h2] at h1
      have := J.H.qlt a ha r d q m e h1
      omega
theorem HJ.hall (J : HJ S0 W hh dl tl W2 kd ka W3 h3 d3 t3 rs s A S Ts ds ps st Q ds' ps' st') (L : LayJ S0 W hh dl tl W2 kd ka W3 h3 d3 t3) {T1 : List Nat} {ds1 : List Deed} {ps1 : List (Pg Int)} {st1 : Stt} (f : Off (HPl W hh dl tl Ts) S S') (H : HallR W hh dl tl T1 S' rs ds1 ps1 st1)
    (ok : ∀ d ∈ ds1, okD (szs rs) [] d ∧ dep d ≤ 7 ∧ wt (rwt rs) (fun _ => 1) d ≤ 1000) (hT : ∀ a ∈ T1, a ∈ Ts ∨ S.length ≤ a) (P : ∀ a ∈ T1, ∀ r d q m e, S'[a]? = some (.ins "Thread" (thF r d q m e)) → (a ∈ Ts ∧ S[a]? = some (.ins "Thread" (thF r d q m e))) ∨ S.length ≤ q) :
    HJ S0 W hh dl tl W2 kd ka W3 h3 d3 t3 rs s A S' T1 ds1 ps1 st1 Q ds' ps' st' := by
  have new : ∀ j, HPl W hh dl tl T1 j → HPl W hh dl tl Ts j ∨ S.length ≤ j := fun j hj => by
    rcases hj with h | h | h | h | h
    · exact .inl (.inl h)
    · exact .inl (.inr (.inl h))
    · exact .inl (.inr (.inr (.inl h)))
    · exact .inl (.inr (.inr (.inr (.inl h))))
    · exact (hT j h).imp (fun h => .inr (.inr (.inr (.inr h)))) id
  have ll := J.llt
  have ol := J.O.lt
  have nd : ∀ {j : Nat}, LPl W2 kd ka Q j → ¬ HPl W hh dl tl Ts j := fun h g => J.dj _ g h
  have nda : ∀ {j : Nat}, j < S0.length → ¬ HPl W hh dl tl Ts j := fun {j} h hL => by have := J.ge j (.inl hL); omega
  refine ⟨H, J.K.offM f (fun j h => nd (.inl h)) (nda L.aq.2.1) (fun a h => nd (.inr (.inr (.inr h)))),
    J.O.offM f (fun j h => (J.d3 j (.inl h)).1) (nda L.aq.2.2) (fun a h => by cases h) (J.d3 _ (.inr (.inl rfl))).1 (J.d3 _ (.inr (.inr (.inl rfl)))).1 (J.d3 _ (.inr (.inr (.inr (.inl rfl))))).1 (fun a h => by cases h), f.keep _ _ (nd (.inr (.inl rfl))) J.kv, f.keep _ _ (nd (.inr (.inr (.inl rfl)))) J.av, ok, J.ok', fun j h g => ?_, fun j h => ⟨fun g => ?_, (J.d3 j h).2⟩, fun j h => ?_, J.kq, ?_, f.pre J.pre (fun j h => J.ge j (.inl h))⟩
  · rcases new j h with h | h
    · exact J.dj j h g
    · have := ll j g; omega
  · rcases new j g with g | g
    · exact (J.d3 j h).1 g
    · have := ol j h; omega
  · rcases h with h | h
    · rcases new j h with g | g
      · exact J.ge j (.inl g)
      · have := J.pre.length_le; omega
    · exact J.ge j (.inr h)
  · intro a ha r d q m e hg hL
    rcases P a ha r d q m e hg with ⟨h1, h2⟩ | h
    · exact J.prv a h1 r d q m e h2 hL
    · have := ll q hL; omega
theorem HJ.ext (J : HJ S0 W hh dl tl W2 kd ka W3 h3 d3 t3 rs s A S Ts ds ps st Q ds' ps' st') (L : LayJ S0 W hh dl tl W2 kd ka W3 h3 d3 t3) (x : S <+: S') : HJ S0 W hh dl tl W2 kd ka W3 h3 d3 t3 rs s A S' Ts ds ps st Q ds' ps' st' :=
  J.law L (.of_pre x) (J.K.ext (ext_of x)) (pre_get x J.kv) (pre_get x J.av) J.ok' (fun a h => .inl h)
end
end DL
namespace DL
open PySem L2
section
variable {src : Src} {g : GDen} {b : SDen} {ds : List D} {it : IDen} {ε : Env} {S S1 : Sto}
theorem lcI_inv {c : DenB} {e : Den} {vs : List Nat} {I : Nat → List D → Sto → Prop} (hs : ∀ i acc S, I i acc S → src S = some ds)
    (hb : ∀ i (h : i < ds.length) acc S, I i acc S → ∃ ε1 S1 x S2, g ds[i] (wipeE ε vs) S = some ε1 ∧ c ε1 S = .ok true S1 ∧ e ε1 S1 = .ok x S2 ∧ acc.length < big ∧ I (i + 1) (acc ++ [x]) S2) :
    ∀ m i acc S, i + m = ds.length → I i acc S → ∃ acc' S', lcI src g c e vs ε (m + 1) i acc S = .ok acc' S' ∧ I ds.length acc' S'
  | 0, i, acc, S, hm, hI => by
    refine ⟨acc, S, ?_, by rw [← hm]; exact hI⟩
    unfold lcI
    simp only [hs i acc S hI]
    rw [List.getElem?_eq_none (by omega)]
  | m + 1, i, acc, S, hm, hI => by
    have hi : i < ds.length := by omega
    obtain ⟨ε1, S1, x, S2, h1, h2, h3, h4, h5⟩ := hb i hi acc S hI
    obtain ⟨acc', S', h6, h7⟩ := lcI_inv (c := c) (e := e) (vs := vs) hs hb m (i + 1) (acc ++ [x]) S2 (by omega) h5
    refine ⟨acc', S', ?_, h7⟩
    unfold lcI
    simp only [hs i acc S hI, List.getElem?_eq_getElem hi, h1, h2, h3, noX, R.bind_ok, if_true]
    rw [if_pos h4]
    exact h6
theorem dLc_inv {c : DenB} {e : Den} {vs : List Nat} {I : Nat → List D → Sto → Prop} (hi : it ε S = .ok src S1) (hs : ∀ i acc S, I i acc S → src S = some ds)
    (hb : ∀ i (h : i < ds.length) acc S, I i acc S → ∃ ε1 S1 x S2, g ds[i] (wipeE ε vs) S = some ε1 ∧ c ε1 S = .ok true S1 ∧ e ε1 S1 = .ok x S2 ∧ acc.length < big ∧ I (i + 1) (acc ++ [x]) S2) (h0 : I 0 [] S1) :
    ∃ acc' S', dLc it g c e vs ε S = .ok (.ref S'.length) (S' ++ [.lst acc']) ∧ I ds.length acc' S' := by
  obtain ⟨acc', S', h1, h2⟩ := lcI_inv (c := c) (e := e) (vs := vs) hs hb ds.length 0 [] S1 (by omega) h0
  refine ⟨acc', S', ?_, h2⟩
  unfold dLc
  rw [hi, R.bind_ok]
  simp only [hs 0 [] S1 h0, h1, R.bind_ok]
  rfl
end
section
variable {B : Nat} {L L' : List Nat} {S S' : Sto} {p : Nat} {t : T}
abbrev inL (L : List Nat) : Nat → Prop := fun n => n ∈ L
structure RowAt (B : Nat) (L : List Nat) (S : Sto) (p : Nat) (t : T) : Prop where
  lo : B ≤ p
  ex : ∃ ds us, t = .lst us ∧ S[p]? = some (.lst ds) ∧ Rds (inL L) S ds us ∧ us.length ≤ 100000
theorem RowAt.more (h : RowAt B L S p t) (q : S <+: S') (hl : ∀ n ∈ L', n ∈ L ∨ S.length ≤ n) : RowAt B L' S' p t := by
  obtain ⟨ds, us, rfl, e, r, k⟩ := h.ex
  refine ⟨h.lo, ds, us, rfl, pre_get q e, r.keep (fun n h1 h2 => ?_) (fun n o _ e => pre_get q e), k⟩
  rcases hl n h2 with z | z
  · exact z
  · omega
theorem RowAt.lt (h : RowAt B L S p t) : p < S.length := by
  obtain ⟨ds, us, _, e, _⟩ := h.ex
  exact (List.getElem?_eq_some_iff.mp e).1
inductive Rows (B : Nat) (L : List Nat) (S : Sto) : List Nat → List T → Prop
  | nil : Rows B L S [] []
  | cons {p : Nat} {ps : List Nat} {t : T} {ts : List T} : RowAt B L S p t → Rows B L S ps ts → Rows B L S (p :: ps) (t :: ts)
theorem Rows.more (q : S <+: S') (hl : ∀ n ∈ L', n ∈ L ∨ S.length ≤ n) : ∀ {ps : List Nat} {ts : List T}, Rows B L S ps ts → Rows B L' S' ps ts
  | _, _, .nil => .nil
  | _, _, .cons h t => .cons (h.more q hl) (t.more q hl)
theorem Rows.app : ∀ {ps qs : List Nat} {ts us : List T}, Rows B L S ps ts → Rows B L S qs us → Rows B L S (ps ++ qs) (ts ++ us)
  | _, _, _, _, .nil, s => s
  | _, _, _, _, .cons h t, s => .cons h (t.app s)
theorem Rows.mem : ∀ {ps : List Nat} {ts : List T}, Rows B L S ps ts → ∀ p ∈ ps, B ≤ p ∧ p < S.length ∧ ∃ ds, S[p]? = some (.lst ds) ∧ ds.length ≤ 100000
  | _, _, .nil, p, h => by cases h
  | _, _, .cons h t, p, hp => by
    rcases List.mem_cons.mp hp with rfl | hp
    · obtain ⟨ds, us, _, e, r, k⟩ := h.ex
      exact ⟨h.lo, h.lt, ds, e, by rw [r.len]; exact k⟩
    · exact t.mem p hp
theorem Rows.len : ∀ {ps : List Nat} {ts : List T}, Rows B L S ps ts → ps.length = ts.length
  | _, _, .nil => rfl
  | _, _, .cons _ t => by rw [List.length_cons, List.length_cons, t.len]
theorem Rows.rd : ∀ {ps : List Nat} {ts : List T}, Rows B L S ps ts → Rds nowhere S (ps.map .ref) ts
  | _, _, .nil => .nil
  | _, _, .cons h t => by
    obtain ⟨ds, us, rfl, e, r, _⟩ := h.ex
    exact .cons (.lst (fun q => q) e (r.keep (fun _ _ q => q.elim) fun _ _ _ e => e)) t.rd
variable {M : List Nat} {e : Den} {ε : Env}
end
end DL
set_option maxHeartbeats 2000000
namespace DL
open PySem L2
inductive Itm where
  | at (w : Str) | par (l : List Itm) | brk (l : List Itm)
def figW (w : Str) : Bool := decide (w ≠ "") && (decide (w.length ≤ 4) && w.cps.toList.all fun c => decide (c ∈ ("0123456789" : Str).cps.toList))
def conv (w : Str) : D := if figW w = true then (match PySem.intText? w with | some n => .int n | none => .non) else .str w
mutual
def Itm.ws : Itm → List Str
  | .at w => [w]
  | .par l => ("(" : Str) :: (Itm.wss l ++ ([")"] : List Str))
  | .brk l => ("[" : Str) :: (Itm.wss l ++ (["]"] : List Str))
def Itm.wss : List Itm → List Str
  | [] => []
  | t :: ts => Itm.ws t ++ Itm.wss ts
end
mutual
def Itm.val : Itm → D
  | .at w => conv w
  | .par l => .tup (Itm.vals l)
  | .brk l => .tup (Itm.vals l)
def Itm.vals : List Itm → List D
  | [] => []
  | t :: ts => Itm.val t :: Itm.vals ts
end
mutual
def Itm.dp : Itm → Nat
  | .at _ => 0
  | .par l => Itm.dps l + 1
  | .brk l => Itm.dps l + 1
def Itm.dps : List Itm → Nat
  | [] => 0
  | t :: ts => max (Itm.dp t) (Itm.dps ts)
end
def wOk (w : Str) : Prop := w ≠ "(" ∧ w ≠ ")" ∧ w ≠ "[" ∧ w ≠ "]" ∧ w.length ≤ 1000 ∧ (figW w = true → ∃ n, PySem.intText? w = some n)
mutual
def Itm.ok : Itm → Prop
  | .at w => wOk w
  | .par l => Itm.oks l
  | .brk l => Itm.oks l
def Itm.oks : List Itm → Prop
  | [] => True
  | t :: ts => Itm.ok t ∧ Itm.oks ts
end
structure WS (S : Sto) (hh L : Nat) (ws : List Str) : Prop where
  o : S[hh]? = some (.ins "Words" [("left", .ref L)])
  l : S[L]? = some (.lst (ws.reverse.map .str))
  ne : hh ≠ L
  sk : ∀ w ∈ ws, sok w = true
structure WF (L : Nat) (S S' : Sto) : Prop where
  len : S.length ≤ S'.length
  keep : ∀ (j : Nat) (o : O), j ≠ L → S[j]? = some o → S'[j]? = some o
theorem WF.refl {L : Nat} {S : Sto} : WF L S S := ⟨Nat.le_refl _, fun _ _ _ h => h⟩
theorem WF.trans {L : Nat} {S S1 S2 : Sto} (a : WF L S S1) (b : WF L S1 S2) : WF L S S2 := ⟨Nat.le_trans a.len b.len, fun j o h e => b.keep j o h (a.keep j o h e)⟩
theorem WF.pre {L : Nat} {S S' : Sto} (h : S <+: S') : WF L S S' := ⟨h.length_le, fun j o _ e => pre_get h e⟩
theorem WS.ext {S S' : Sto} {hh L : Nat} {ws : List Str} (h : WS S hh L ws) (p : S <+: S') : WS S' hh L ws := ⟨pre_get p h.o, pre_get p h.l, h.ne, h.sk⟩
section
variable {S : Sto} {hh L n : Nat} {w : Str} {ws rest : List Str} {ε : Env}
theorem rd_strs {S : Sto} {k : Nat} {l : List Str} (h : S[k]? = some (.lst (l.map .str))) : Rd nowhere S (.ref k) (strsT l) := .lst (fun q => q) h (Rds.maps fun x _ => .str x)
theorem fine_strsT {l : List Str} (h : ∀ x ∈ l, sok x = true) : Fine (strsT l) := .lst (k := 37) (.all fun t ht => by
  obtain ⟨m, hm, rfl⟩ := List.mem_map.mp ht
  exact .str 37 (h m hm))
theorem left_eq (h : WS S hh L ws) (hj : ε[j]? = some (some (.ref hh))) : ∃ S', dBin oEq (dFld "left" (dVar j)) (dLst dNil) ε S = .ok (.bl (decide (ws = []))) S' ∧ S <+: S' := by
  have e1 : dLst dNil ε S = .ok (.ref S.length) (S ++ [.lst []]) := rfl
  have p := List.prefix_append S [O.lst []]
  refine ⟨_, eBin (eFld (eZ (zV hj)) h.o rfl) e1 (eqH (rd_strs (pre_get p h.l)) (rd_strs (l := []) getLast_app) ?_), p⟩
  rw [qEq_fine (fine_strsT fun x hx => h.sk x (List.mem_reverse.mp hx)) (fine_strsT fun x hx => by cases hx)]
  congr 2
  refine decide_eq_decide.mpr ?_
  unfold strsT
  cases ws with
  | nil => simp
  | cons a b => simp
theorem nextw_sem (h : WS S hh L (w :: ws)) : ∃ S', csem (n + 2) .m_Words_next_word [.ref hh] S = .ok (.str w) S' ∧ WS S' hh L ws ∧ WF L S S' := by
  obtain ⟨S1, e1, p1⟩ := left_eq (ε := [some (.ref hh)]) (j := 0) h rfl
  have h1 := h.ext p1
  have lL := (List.getElem?_eq_some_iff.mp h1.l).1
  refine ⟨S1.set L (.lst (ws.reverse.map .str)), ?_, ⟨by rw [List.getElem?_set_ne (Ne.symm h.ne)]; exact h1.o, List.getElem?_set_self lL, h.ne, fun x hx => h.sk x (List.mem_cons_of_mem _ hx)⟩,
    ⟨by rw [List.length_set]; exact p1.length_le, fun j o hj e => by rw [List.getElem?_set_ne (Ne.symm hj)]; exact pre_get p1 e⟩⟩
  rw [cs_m_Words_next_word]
  unfold b_m_Words_next_word
  refine run_rt (eSkip (eTest e1) (eRet ?_))
  unfold dPop
  rw [eFld (eZ (zV (i := 0) (d := .ref hh) rfl)) h1.o rfl, x_bind]
  simp only [lstAt, h1.l]
  rw [← List.map_reverse, List.reverse_reverse, List.map_cons]
  dsimp only
  rw [← List.map_reverse]
theorem word_sem {deep : Int} (hw : wOk w) : ∃ S', csem (n + 2) .m_Words_thing [.ref hh, .str w, .int deep] S = .ok (conv w) S' ∧ S <+: S' := by
  obtain ⟨n1, n2, n3, n4, hl, hf⟩ := hw
  let ε0 : Env := [some (.ref hh), some (.str w), some (.int deep), none]
  have eqw : ∀ (q : Str) (S : Sto), w ≠ q → dTest (dBin oEq (dVar 1) (dC (.str q))) ε0 S = .ok false S := fun q S h => by
    refine eTest (eBin (eZ (zV (i := 1) (d := .str w) rfl)) (eZ zC) ?_)
    rw [x_eqS, decide_eq_false h]
  have andF : ∀ {p q : DenB} {S : Sto}, p ε0 S = .ok false S → bAnd p q ε0 S = .ok false S := fun h => by
    rw [x_And, h, x_bind, if_neg (by decide)]
  have t1 := andF (q := dTest (dBin oGt (dVar 2) (dC (.int 0)))) (eqw "(" S n1)
  have t2 := andF (q := dTest (dBin oGt (dVar 2) (dC (.int 0)))) (eqw "[" S n3)
  -- figures
  obtain ⟨S', e3, p3⟩ : ∃ S', bAnd (dTest (dBin oNe (dVar 1) (dC (.str "")))) (bAnd (dTest (dBin oLe (dFn fLen (dCons (dVar 1) dNil)) (dC (.int 4)))) (dTest (dFn fAll (dCons (dLc (iAny (dVar 1)) (gN 3) bYes (dBin oIn (dVar 3) (dC (.str "0123456789"))) [3]) dNil)))) ε0 S = .ok (figW w) S' ∧ S <+: S' := by
    have c1 : dTest (dBin oNe (dVar 1) (dC (.str ""))) ε0 S = .ok (decide (w ≠ "")) S := by
      refine eTest (eBin (eZ (zV (i := 1) (d := .str w) rfl)) (eZ zC) ?_)
      show R.ok (D.bl (!decide (w = ""))) S = _
      congr 2
      by_cases h : w = ""
      · rw [decide_eq_true h, decide_eq_false (fun z => z h)]; rfl
      · rw [decide_eq_false h, decide_eq_true h]; rfl
    have c2 : dTest (dBin oLe (dFn fLen (dCons (dVar 1) dNil)) (dC (.int 4))) ε0 S = .ok (decide (w.length ≤ 4)) S := by
      refine eTest (eBin (eFn (eCons (eZ (zV (i := 1) (d := .str w) rfl)) eNil) (show fLen [.str w] S = .ok (.int w.length) S from if_pos (Nat.le_trans hl (by decide)))) (eZ zC) ?_)
      show R.ok (D.bl (decide ((w.length : Int) ≤ 4))) S = _
      congr 2
      exact decide_eq_decide.mpr (by omega)
    obtain ⟨acc, S1, e, hp, ha⟩ := dLc_inv (it := iAny (dVar 1)) (g := gN 3) (c := bYes) (e := dBin oIn (dVar 3) (dC (.str "0123456789"))) (vs := [3]) (ε := ε0) (S := S) (S1 := S) (src := fun _ => some (signs w)) (ds := signs w)
      (I := fun m acc S' => S' = S ∧ acc = (w.cps.toList.take m).map fun c => D.bl (decide (c ∈ ("0123456789" : Str).cps.toList))) rfl (fun _ _ _ _ => rfl) (fun m hm acc S' ⟨hS, ha⟩ => by
        subst hS
        have hm' : m < w.cps.toList.length := by simpa [signs] using hm
        refine ⟨(wipeE ε0 [3]).set 3 (some (.str ⟨#[w.cps.toList[m]]⟩)), S', .bl (decide (w.cps.toList[m] ∈ ("0123456789" : Str).cps.toList)), S', ?_, rfl, ?_, ?_, rfl, ?_⟩
        · have : (signs w)[m] = D.str ⟨#[w.cps.toList[m]]⟩ := by simp [signs]
          rw [this]
          rfl
        · refine eBin (eZ (zV (i := 3) (d := .str ⟨#[w.cps.toList[m]]⟩) rfl)) (eZ zC) ?_
          unfold oIn inD
          rfl
        · rw [ha, List.length_map, List.length_take]
          have : w.cps.toList.length = w.length := by simp [Str.length]
          have : (1000 : Nat) < big := by decide
          omega
        · rw [ha, List.take_succ, List.getElem?_eq_getElem hm']
          simp) ⟨rfl, rfl⟩
    subst hp
    have lw : (signs w).length = w.cps.toList.length := by simp [signs]
    rw [lw, List.take_length] at ha
    have c3 : dTest (dFn fAll (dCons (dLc (iAny (dVar 1)) (gN 3) bYes (dBin oIn (dVar 3) (dC (.str "0123456789"))) [3]) dNil)) ε0 S1 = .ok (w.cps.toList.all fun c => decide (c ∈ ("0123456789" : Str).cps.toList)) (S1 ++ [.lst acc]) := by
      refine eTest (eFn (eCons e eNil) ?_)
      unfold fAll fLst
      have : litems (S1 ++ [O.lst acc]) (.ref S1.length) = some acc := by simp only [litems, getLast_app]
      simp only [this]
      have fb : fall blD acc = some (w.cps.toList.map fun c => decide (c ∈ ("0123456789" : Str).cps.toList)) := by
        rw [ha]
        induction w.cps.toList with
        | nil => rfl
        | cons a l ih => rw [List.map_cons, List.map_cons]; exact fall_cons rfl ih
      rw [fb]
      dsimp only
      rw [List.all_map]
      rfl
    unfold figW
    by_cases q1 : w ≠ ""
    · rw [decide_eq_true q1] at c1 ⊢
      by_cases q2 : w.length ≤ 4
      · rw [decide_eq_true q2] at c2 ⊢
        refine ⟨_, ?_, List.prefix_append _ [O.lst acc]⟩
        rw [x_And, c1, x_bind, if_pos rfl, x_And, c2, x_bind, if_pos rfl, c3]
        rfl
      · rw [decide_eq_false q2] at c2 ⊢
        refine ⟨_, ?_, List.prefix_rfl⟩
        rw [x_And, c1, x_bind, if_pos rfl, x_And, c2, x_bind, if_neg (by decide)]
        rfl
    · rw [decide_eq_false q1] at c1 ⊢
      refine ⟨_, ?_, List.prefix_rfl⟩
      rw [x_And, c1, x_bind, if_neg (by decide)]
      rfl
  refine ⟨S', ?_, p3⟩
  rw [cs_m_Words_thing]
  unfold b_m_Words_thing
  unfold conv
  by_cases hfw : figW w = true
  · rw [hfw] at e3
    rw [if_pos hfw]
    obtain ⟨k, hk⟩ := hf hfw
    refine run_rt (eSkip t1 (eSkip t2 (eTake e3 (eRet (eFn (eCons (eZ (zV (i := 1) (d := .str w) rfl)) eNil) ?_)))))
    unfold fIntS
    simp only [hk]
    rw [if_pos (by
      have : w.length ≤ 4 := by
        unfold figW at hfw
        simp only [Bool.and_eq_true, decide_eq_true_eq] at hfw
        exact hfw.2.1
      omega)]
  · rw [if_neg hfw]
    have : figW w = false := by simpa using hfw
    rw [this] at e3
    exact run_rt (eSkip t1 (eSkip t2 (eSkip e3 (eRet (eZ (zV (i := 1) (d := .str w) rfl))))))
end
end DL
namespace DL
open PySem L2
noncomputable def rowC : DenB := dTest (dBin oNe (dVar 4) (dVar 1))
noncomputable def rowB (n : Nat) : SDen := (sSeq (sAsg (dBin oAdd (dVar 3) (dTup (dCons (dMeth "Words" "thing" 3 (csem n .m_Words_thing) (dVar 0) (dCons (dVar 4) (dCons (dVar 2) dNil))) dNil))) (gN 3))
    (sAsg (dMeth "Words" "next_word" 1 (csem n .m_Words_next_word) (dVar 0) dNil) (gN 4)))
def eRow (hh : Nat) (e : Str) (deep : Int) (found : List D) (w : Str) : Env := [some (.ref hh), some (.str e), some (.int deep), some (.tup found), some (.str w)]
theorem ws_head : ∀ t : Itm, Itm.ok t → ∃ w tl, Itm.ws t = w :: tl ∧ w ≠ ")" ∧ w ≠ "]"
  | .at w, h => ⟨w, [], rfl, h.2.1, h.2.2.2.1⟩
  | .par l, h => ⟨"(", _, rfl, by decide +kernel, by decide +kernel⟩
  | .brk l, h => ⟨"[", _, rfl, by decide +kernel, by decide +kernel⟩
theorem whl_more {c : DenB} {b : SDen} {m : Nat} {ε ε' : Env} {S S1 S2 : Sto} {r : R Fl} (hc : c ε S = .ok true S1) (hb : b ε S1 = .ok (.nx ε') S2) (k : whl c b m ε' S2 = r) : whl c b (m + 1) ε S = r := by
  unfold whl
  rw [hc, x_sE, if_pos rfl, hb]
  exact k
theorem whl_stop {c : DenB} {b : SDen} {m : Nat} {ε : Env} {S S1 : Sto} (hc : c ε S = .ok false S1) : whl c b (m + 1) ε S = .ok (.nx ε) S1 := by
  unfold whl
  rw [hc, x_sE, if_neg (by decide)]
mutual
theorem thing_itm {hh L : Nat} : ∀ (t : Itm) (n : Nat) (S : Sto) (rest : List Str) (w : Str) (tl : List Str) (deep : Int), Itm.ws t = w :: tl → WS S hh L (tl ++ rest) → Itm.ok t → (Itm.dp t : Int) ≤ deep → 2 * Itm.dp t + 3 ≤ n → (Itm.ws t).length ≤ 900000 →
    ∃ S', csem n .m_Words_thing [.ref hh, .str w, .int deep] S = .ok (Itm.val t) S' ∧ WS S' hh L rest ∧ WF L S S'
  | .at x, n, S, rest, w, tl, deep, he, hS, ho, hd, hn, hl => by
    obtain ⟨n, rfl⟩ : ∃ j, n = j + 2 := ⟨n - 2, by omega⟩
    cases he
    obtain ⟨S', e, p⟩ := word_sem (n := n) (hh := hh) (S := S) (deep := deep) ho
    exact ⟨S', e, hS.ext p, WF.pre p⟩
  | .par l, n, S, rest, w, tl, deep, he, hS, ho, hd, hn, hl => by
    simp only [Itm.dp] at hd hn
    obtain ⟨n, rfl⟩ : ∃ j, n = j + 5 := ⟨n - 5, by omega⟩
    cases he
    simp only [Itm.ws, List.length_cons, List.length_append, List.length_nil] at hl
    rw [List.append_assoc] at hS
    obtain ⟨S', e1, h1, f1⟩ := row_itms (hh := hh) (L := L) l (n + 2) S rest ")" (deep - 1) (.inl rfl) hS ho (by omega) (by omega) (by omega)
    refine ⟨S', ?_, h1, f1⟩
    rw [show n + 5 = (n + 3) + 2 from rfl, cs_m_Words_thing]
    unfold b_m_Words_thing
    refine run_rt (eTake (S1 := S) ?_ (eRet (eMeth (eZ (zV (i := 0) (d := .ref hh) rfl)) hS.o rfl (eCons (eZ zC) (eCons (eBin (eZ (zV (i := 2) (d := .int deep) rfl)) (eZ zC) x_subI) eNil)) e1)))
    rw [x_And, eTest (eBin (eZ (zV (i := 1) (d := .str "(") rfl)) (eZ zC) x_eqS), x_bind, if_pos (by decide)]
    refine eTest (eBin (eZ (zV (i := 2) (d := .int deep) rfl)) (eZ zC) ?_)
    show R.ok (D.bl (decide (deep > 0))) S = _
    rw [decide_eq_true (by omega)]
  | .brk l, n, S, rest, w, tl, deep, he, hS, ho, hd, hn, hl => by
    simp only [Itm.dp] at hd hn
    obtain ⟨n, rfl⟩ : ∃ j, n = j + 5 := ⟨n - 5, by omega⟩
    cases he
    simp only [Itm.ws, List.length_cons, List.length_append, List.length_nil] at hl
    rw [List.append_assoc] at hS
    obtain ⟨S', e1, h1, f1⟩ := row_itms (hh := hh) (L := L) l (n + 2) S rest "]" (deep - 1) (.inr rfl) hS ho (by omega) (by omega) (by omega)
    refine ⟨S', ?_, h1, f1⟩
    rw [show n + 5 = (n + 3) + 2 from rfl, cs_m_Words_thing]
    unfold b_m_Words_thing
    refine run_rt (eSkip (S1 := S) ?_ (eTake (S1 := S) ?_ (eRet (eMeth (eZ (zV (i := 0) (d := .ref hh) rfl)) hS.o rfl (eCons (eZ zC) (eCons (eBin (eZ (zV (i := 2) (d := .int deep) rfl)) (eZ zC) x_subI) eNil)) e1))))
    · rw [x_And, eTest (eBin (eZ (zV (i := 1) (d := .str "[") rfl)) (eZ zC) x_eqS), x_bind, if_neg (by decide +kernel)]
    · rw [x_And, eTest (eBin (eZ (zV (i := 1) (d := .str "[") rfl)) (eZ zC) x_eqS), x_bind, if_pos (by decide)]
      refine eTest (eBin (eZ (zV (i := 2) (d := .int deep) rfl)) (eZ zC) ?_)
      show R.ok (D.bl (decide (deep > 0))) S = _
      rw [decide_eq_true (by omega)]
theorem row_itms {hh L : Nat} : ∀ (l : List Itm) (n : Nat) (S : Sto) (rest : List Str) (e : Str) (deep : Int), (e = ")" ∨ e = "]") → WS S hh L (Itm.wss l ++ ([e] ++ rest)) → Itm.oks l → (Itm.dps l : Int) ≤ deep → 2 * Itm.dps l + 2 ≤ n → (Itm.wss l).length ≤ 900000 →
    ∃ S', csem (n + 2) .m_Words_row [.ref hh, .str e, .int deep] S = .ok (.tup (Itm.vals l)) S' ∧ WS S' hh L rest ∧ WF L S S' := fun l n S rest e deep he hS ho hd hn hl => by
  obtain ⟨w, ws, hw⟩ : ∃ w ws, Itm.wss l ++ ([e] ++ rest) = w :: ws := by
    cases h : Itm.wss l ++ ([e] ++ rest) with
    | nil => simp at h
    | cons a b => exact ⟨a, b, rfl⟩
  rw [hw] at hS
  obtain ⟨n, rfl⟩ : ∃ j, n = j + 1 := ⟨n - 1, by omega⟩
  obtain ⟨S1, e1, h1, f1⟩ := nextw_sem (n := n) hS
  have o0 := hS.o
  obtain ⟨S2, e2, h2, f2⟩ := loop_itms (hh := hh) (L := L) l (n + 2) S1 rest e deep [] 1000000 w ws he hw h1 ho hd (by omega) (by simp; omega) (by omega)
  refine ⟨S2, ?_, h2, f1.trans f2⟩
  rw [show n + 1 + 2 = (n + 1) + 2 from rfl, cs_m_Words_row]
  unfold b_m_Words_row
  refine run_rt (eLet (ε' := [some (.ref hh), some (.str e), some (.int deep), some (.tup []), none]) (eTup eNil) (eLet (ε' := eRow hh e deep [] w) (eMeth (eZ (zV (i := 0) (d := .ref hh) rfl)) o0 rfl eNil e1) (eSeq (ε' := eRow hh e deep ([] ++ Itm.vals l) e) e2 (eRet (eZ (zV (i := 3) (d := .tup (Itm.vals l)) rfl))))))
theorem loop_itms {hh L : Nat} : ∀ (l : List Itm) (n : Nat) (S : Sto) (rest : List Str) (e : Str) (deep : Int) (found : List D) (fuel : Nat) (w : Str) (ws : List Str), (e = ")" ∨ e = "]") → Itm.wss l ++ ([e] ++ rest) = w :: ws → WS S hh L ws → Itm.oks l → (Itm.dps l : Int) ≤ deep → 2 * Itm.dps l + 3 ≤ n →
    found.length + (Itm.wss l).length ≤ 900000 → (Itm.wss l).length < fuel →
    ∃ S', whl rowC (rowB n) fuel (eRow hh e deep found w) S = .ok (.nx (eRow hh e deep (found ++ Itm.vals l) e)) S' ∧ WS S' hh L rest ∧ WF L S S'
  | [], n, S, rest, e, deep, found, fuel, w, ws, he, hw, hS, ho, hd, hn, hl, hf => by
    obtain ⟨fuel, rfl⟩ : ∃ j, fuel = j + 1 := ⟨fuel - 1, by omega⟩
    simp only [Itm.wss, List.nil_append, List.singleton_append, List.cons.injEq] at hw
    obtain ⟨rfl, rfl⟩ := hw
    refine ⟨S, ?_, hS, WF.refl⟩
    rw [show found ++ Itm.vals [] = found by simp [Itm.vals]]
    refine whl_stop (eTest (eBin (eZ (zV (i := 4) (d := .str e) rfl)) (eZ (zV (i := 1) (d := .str e) rfl)) ?_))
    show R.ok (D.bl (!decide (e = e))) S = _
    simp
  | t :: l, n, S, rest, e, deep, found, fuel, w, ws, he, hw, hS, ho, hd, hn, hl, hf => by
    obtain ⟨fuel, rfl⟩ : ∃ j, fuel = j + 1 := ⟨fuel - 1, by omega⟩
    obtain ⟨w', tl, hwt, n1, n2⟩ := ws_head t ho.1
    simp only [Itm.wss, List.length_append] at hl hf
    have lt : 1 ≤ (Itm.ws t).length := by rw [hwt]; simp
    simp only [Itm.wss, hwt, List.cons_append, List.cons.injEq, List.append_assoc] at hw
    obtain ⟨rfl, rfl⟩ := hw
    simp only [Itm.dps] at hd hn
    obtain ⟨S1, e1, h1, f1⟩ := thing_itm (hh := hh) (L := L) t n S (Itm.wss l ++ ([e] ++ rest)) w' tl deep hwt hS ho.1 (by omega) (by omega) (by omega)
    obtain ⟨w2, ws2, hw2⟩ : ∃ w ws, Itm.wss l ++ ([e] ++ rest) = w :: ws := by
      cases h : Itm.wss l ++ ([e] ++ rest) with
      | nil => simp at h
      | cons a b => exact ⟨a, b, rfl⟩
    rw [hw2] at h1
    obtain ⟨n, rfl⟩ : ∃ j, n = j + 2 := ⟨n - 2, by omega⟩
    obtain ⟨S2, e2, h2, f2⟩ := nextw_sem (n := n) h1
    obtain ⟨S3, e3, h3, f3⟩ := loop_itms (hh := hh) (L := L) l (n + 2) S2 rest e deep (found ++ [Itm.val t]) fuel w2 ws2 he hw2 h2 ho.2 (by omega) (by omega) (by simp; omega) (by omega)
    refine ⟨S3, ?_, h3, f1.trans (f2.trans f3)⟩
    have ne : w' ≠ e := by
      rcases he with rfl | rfl
      · exact n1
      · exact n2
    refine whl_more (S1 := S) (eTest (eBin (eZ (zV (i := 4) (d := .str w') rfl)) (eZ (zV (i := 1) (d := .str e) rfl)) ?_)) (eLet (ε' := eRow hh e deep (found ++ [Itm.val t]) w') ?_ (eAsg (ε' := eRow hh e deep (found ++ [Itm.val t]) w2) (eMeth (eZ (zV (i := 0) (d := .ref hh) rfl)) h1.o rfl eNil e2))) ?_
    · show R.ok (D.bl (!decide (w' = e))) S = _
      rw [decide_eq_false ne]
      rfl
    · refine eBin (eZ (zV (i := 3) (d := .tup found) rfl)) (eTup (eCons (eMeth (eZ (zV (i := 0) (d := .ref hh) rfl)) hS.o rfl (eCons (eZ (zV (i := 4) (d := .str w') rfl)) (eCons (eZ (zV (i := 2) (d := .int deep) rfl)) eNil)) e1) eNil)) ?_
      show (if found.length + 1 ≤ big then R.ok (D.tup (found ++ [Itm.val t])) S1 else R.bad) = _
      rw [if_pos (by have : (1000000 : Nat) ≤ big := by decide
                     omega)]
    · rw [e3, Itm.vals, List.append_assoc]
      rfl
end
end DL
namespace DL
open PySem L2
mutual
def itmD : Deed → Itm
  | .num i => .par [.at "number", .at (toS i)]
  | .nam x => .par [.at "name", .at x]
  | .dod x => .par [.at "do", .at x]
  | .ask => .par [.at "ask"]
  | .rd x => .par [.at "read", .at x]
  | .wr x a => .par [.at "write", .at x, itmD a]
  | .say a => .par [.at "say", itmD a]
  | .lt x a b => .par [.at "let", .at x, itmD a, itmD b]
  | .own x a b => .par [.at "own", .at x, itmD a, itmD b]
  | .iff a b c => .par [.at "if", itmD a, itmD b, itmD c]
  | .two w a b => .par [.at w.w, itmD a, itmD b]
  | .call i ps hs => .par [.at "call", .at (toS i), .brk (itmDs ps), .brk (itmDs hs)]
def itmDs : List Deed → List Itm
  | [] => []
  | d :: ds => itmD d :: itmDs ds
end
mutual
theorem ws_itm : ∀ d : Deed, Itm.ws (itmD d) = wds d
  | .num i => rfl
  | .nam x => rfl
  | .dod x => rfl
  | .ask => rfl
  | .rd x => rfl
  | .wr x a => by simp [itmD, Itm.ws, Itm.wss, wds, ws_itm a]
  | .say a => by simp [itmD, Itm.ws, Itm.wss, wds, ws_itm a]
  | .lt x a b => by simp [itmD, Itm.ws, Itm.wss, wds, ws_itm a, ws_itm b]
  | .own x a b => by simp [itmD, Itm.ws, Itm.wss, wds, ws_itm a, ws_itm b]
  | .iff a b c => by simp [itmD, Itm.ws, Itm.wss, wds, ws_itm a, ws_itm b, ws_itm c]
  | .two w a b => by simp [itmD, Itm.ws, Itm.wss, wds, ws_itm a, ws_itm b]
  | .call i ps hs => by simp [itmD, Itm.ws, Itm.wss, wds, wss_itm ps, wss_itm hs]
theorem wss_itm : ∀ ds : List Deed, Itm.wss (itmDs ds) = wdss ds
  | [] => rfl
  | d :: ds => by simp [itmDs, Itm.wss, wdss, ws_itm d, wss_itm ds]
end
mutual
theorem dp_itm : ∀ d : Deed, Itm.dp (itmD d) ≤ 2 * dep d + 1
  | .num i => by simp [itmD, Itm.dp, Itm.dps]
  | .nam x => by simp [itmD, Itm.dp, Itm.dps]
  | .dod x => by simp [itmD, Itm.dp, Itm.dps]
  | .ask => by simp [itmD, Itm.dp, Itm.dps]
  | .rd x => by simp [itmD, Itm.dp, Itm.dps]
  | .wr x a => by have := dp_itm a; simp [itmD, Itm.dp, Itm.dps, dep]; omega
  | .say a => by have := dp_itm a; simp [itmD, Itm.dp, Itm.dps, dep]; omega
  | .lt x a b => by have := dp_itm a; have := dp_itm b; simp [itmD, Itm.dp, Itm.dps, dep]; omega
  | .own x a b => by have := dp_itm a; have := dp_itm b; simp [itmD, Itm.dp, Itm.dps, dep]; omega
  | .iff a b c => by have := dp_itm a; have := dp_itm b; have := dp_itm c; simp [itmD, Itm.dp, Itm.dps, dep]; omega
  | .two w a b => by have := dp_itm a; have := dp_itm b; simp [itmD, Itm.dp, Itm.dps, dep]; omega
  | .call i ps hs => by have := dps_itm ps; have := dps_itm hs; simp [itmD, Itm.dp, Itm.dps, dep]; omega
theorem dps_itm : ∀ ds : List Deed, Itm.dps (itmDs ds) ≤ 2 * deps ds + 1
  | [] => by simp [itmDs, Itm.dps]
  | d :: ds => by have := dp_itm d; have := dps_itm ds; simp [itmDs, Itm.dps, deps]; omega
end
def nmW (w : Str) : Bool := decide (w ≠ "(") && (decide (w ≠ ")") && (decide (w ≠ "[") && (decide (w ≠ "]") && (decide (w.length ≤ 1000) && !figW w))))
theorem nmW_ok {w : Str} (h : nmW w = true) : wOk w ∧ conv w = .str w := by
  unfold nmW at h
  simp only [Bool.and_eq_true, decide_eq_true_eq, Bool.not_eq_true'] at h
  obtain ⟨h1, h2, h3, h4, h5, h6⟩ := h
  refine ⟨⟨h1, h2, h3, h4, h5, fun z => by rw [h6] at z; cases z⟩, ?_⟩
  unfold conv
  rw [h6]
  rfl
theorem nm_kw : ∀ w ∈ (["number", "name", "do", "ask", "read", "write", "say", "let", "own", "if", "call", "then", "add", "less", "loop"] : List Str), nmW w = true ∧ sok w = true ∧ 32 ∉ w.cps.toList := by decide +kernel
theorem nm_names : ∀ w ∈ (["x", "y", "x1", "z", "p", "q", "p1", "f", "g1", "g", "a", "b", "c", "d"] : List Str), nmW w = true ∧ sok w = true ∧ 32 ∉ w.cps.toList := by decide +kernel
theorem nm_brk : ∀ w ∈ (["(", ")", "[", "]"] : List Str), w.length ≤ 1000 ∧ sok w = true ∧ 32 ∉ w.cps.toList := by decide +kernel
theorem nm_kd {x : Str} (h : kd x ≠ 0) : nmW x = true ∧ sok x = true ∧ 32 ∉ x.cps.toList := by
  unfold kd at h
  split at h
  · rename_i q
    exact nm_names x (by simp at q ⊢; rcases q with h | h | h | h <;> simp [h])
  · split at h
    · rename_i q
      exact nm_names x (by simp at q ⊢; rcases q with h | h | h <;> simp [h])
    · split at h
      · rename_i q
        exact nm_names x (by simp at q ⊢; rcases q with h | h | h <;> simp [h])
      · exact absurd rfl h
theorem nm_ab {x : Str} (h : x ∈ abcd) : nmW x = true ∧ sok x = true ∧ 32 ∉ x.cps.toList := nm_names x (by
  simp [abcd] at h ⊢
  rcases h with h | h | h | h <;> simp [h])
theorem nm_shelf {x : Str} {K : List Str} (h : (x ∈ K ∧ kd x = 2) ∨ x ∈ abcd) : nmW x = true ∧ sok x = true ∧ 32 ∉ x.cps.toList := by
  rcases h with h | h
  · exact nm_kd (by rw [h.2]; decide)
  · exact nm_ab h
theorem toS_num (n : Nat) (h : n < 10000) : wOk (toS (n : Int)) ∧ conv (toS (n : Int)) = .int n ∧ sok (toS (n : Int)) = true ∧ 32 ∉ (toS (n : Int)).cps.toList := by
  have tl : (toS (n : Int)).cps.toList = TL.numL n := TL.tl_num n
  have dg := TL.numL_digits n
  have ln : (TL.numL n).length ≤ 4 := TL.numL_len (by decide) h
  have lw : (toS (n : Int)).length ≤ 4 := by
    have : (toS (n : Int)).length = (toS (n : Int)).cps.toList.length := by simp [Str.length]
    rw [this, tl]
    exact ln
  have it : PySem.intText? (toS (n : Int)) = some (n : Int) := TL.int_num (by omega)
  have ne : toS (n : Int) ≠ "" := fun z => by
    rw [z] at tl
    exact TL.numL_ne n tl.symm
  have fw : figW (toS (n : Int)) = true := by
    unfold figW
    rw [decide_eq_true ne, decide_eq_true lw, tl]
    simp only [Bool.true_and]
    refine List.all_eq_true.mpr fun c hc => decide_eq_true ?_
    have := dg c hc
    have e : ("0123456789" : Str).cps.toList = [48, 49, 50, 51, 52, 53, 54, 55, 56, 57] := by decide +kernel
    rw [e]
    simp
    omega
  have no : ∀ (w : Str) (k : Nat), k ∈ w.cps.toList → ¬ (48 ≤ k ∧ k ≤ 57) → toS (n : Int) ≠ w := fun w k hk hn e => by
    have : k ∈ (toS (n : Int)).cps.toList := by rw [e]; exact hk
    rw [tl] at this
    exact hn (dg k this)
  refine ⟨⟨no "(" 40 (by decide +kernel) (by decide), no ")" 41 (by decide +kernel) (by decide), no "[" 91 (by decide +kernel) (by decide), no "]" 93 (by decide +kernel) (by decide), by omega, fun _ => ⟨_, it⟩⟩, ?_, ?_, ?_⟩
  · unfold conv
    rw [fw, if_pos rfl, it]
  · show (toS (n : Int)).cps.all (fun c => decide (c < 0x110000)) = true
    rw [← Array.all_toList, tl]
    refine List.all_eq_true.mpr fun c hc => decide_eq_true ?_
    have := dg c hc
    omega
  · rw [tl]
    exact TL.numL_free (.inl (by decide))
theorem toS_int {i : Int} (h0 : 0 ≤ i) (h1 : i ≤ 1008) : wOk (toS i) ∧ conv (toS i) = .int i ∧ sok (toS i) = true ∧ 32 ∉ (toS i).cps.toList := by
  obtain ⟨n, rfl⟩ : ∃ n : Nat, i = (n : Int) := ⟨i.toNat, by omega⟩
  exact toS_num n (by omega)
def wFit (w : Str) : Prop := w.length ≤ 1000 ∧ sok w = true ∧ 32 ∉ w.cps.toList
section
variable {sz : List (Nat × Nat)} (hz : sz.length ≤ 1000)
include hz
theorem kwF {w : Str} (h : w ∈ (["number", "name", "do", "ask", "read", "write", "say", "let", "own", "if", "call", "then", "add", "less", "loop"] : List Str)) : wOk w ∧ conv w = .str w ∧ wFit w :=
  let k := nm_kw w h
  let o := nmW_ok k.1
  ⟨o.1, o.2, o.1.2.2.2.2.1, k.2⟩
omit hz in
theorem nmF {w : Str} (k : nmW w = true ∧ sok w = true ∧ 32 ∉ w.cps.toList) : wOk w ∧ conv w = .str w ∧ wFit w :=
  let o := nmW_ok k.1
  ⟨o.1, o.2, o.1.2.2.2.2.1, k.2⟩
omit hz in
theorem inF {i : Int} (h0 : 0 ≤ i) (h1 : i ≤ 1008) : wOk (toS i) ∧ conv (toS i) = .int i ∧ wFit (toS i) :=
  let k := toS_int h0 h1
  ⟨k.1, k.2.1, k.1.2.2.2.2.1, k.2.2⟩
omit hz in
theorem brF {w : Str} (h : w ∈ (["(", ")", "[", "]"] : List Str)) : wFit w := nm_brk w h
mutual
theorem itm_ok : ∀ (d : Deed) {K : List Str}, okD sz K d → Itm.ok (itmD d) ∧ Itm.val (itmD d) = enc d ∧ ∀ w ∈ wds d, wFit w
  | .num i, K, h => by
    have a := kwF hz (w := "number") (by simp)
    have b := inF h.1 h.2
    refine ⟨⟨a.1, b.1, trivial⟩, by simp only [itmD, Itm.val, Itm.vals, a.2.1, b.2.1, enc], fun w hw => ?_⟩
    simp only [wds, List.mem_cons, List.not_mem_nil, or_false] at hw
    rcases hw with rfl | rfl | rfl | rfl
    · exact brF (by simp)
    · exact a.2.2
    · exact b.2.2
    · exact brF (by simp)
  | .nam x, K, h => by
    have a := kwF hz (w := "name") (by simp)
    have b := nmF (nm_kd (x := x) (by rw [h.2]; decide))
    refine ⟨⟨a.1, b.1, trivial⟩, by simp only [itmD, Itm.val, Itm.vals, a.2.1, b.2.1, enc], fun w hw => ?_⟩
    simp only [wds, List.mem_cons, List.not_mem_nil, or_false] at hw
    rcases hw with rfl | rfl | rfl | rfl
    · exact brF (by simp)
    · exact a.2.2
    · exact b.2.2
    · exact brF (by simp)
  | .dod x, K, h => by
    have a := kwF hz (w := "do") (by simp)
    have b := nmF (nm_kd (x := x) (by rw [h.2]; decide))
    refine ⟨⟨a.1, b.1, trivial⟩, by simp only [itmD, Itm.val, Itm.vals, a.2.1, b.2.1, enc], fun w hw => ?_⟩
    simp only [wds, List.mem_cons, List.not_mem_nil, or_false] at hw
    rcases hw with rfl | rfl | rfl | rfl
    · exact brF (by simp)
    · exact a.2.2
    · exact b.2.2
    · exact brF (by simp)
  | .ask, K, h => by
    have a := kwF hz (w := "ask") (by simp)
    refine ⟨⟨a.1, trivial⟩, by simp only [itmD, Itm.val, Itm.vals, a.2.1, enc], fun w hw => ?_⟩
    simp only [wds, List.mem_cons, List.not_mem_nil, or_false] at hw
    rcases hw with rfl | rfl | rfl
    · exact brF (by simp)
    · exact a.2.2
    · exact brF (by simp)
  | .rd x, K, h => by
    have a := kwF hz (w := "read") (by simp)
    have b := nmF (nm_shelf (x := x) h)
    refine ⟨⟨a.1, b.1, trivial⟩, by simp only [itmD, Itm.val, Itm.vals, a.2.1, b.2.1, enc], fun w hw => ?_⟩
    simp only [wds, List.mem_cons, List.not_mem_nil, or_false] at hw
    rcases hw with rfl | rfl | rfl | rfl
    · exact brF (by simp)
    · exact a.2.2
    · exact b.2.2
    · exact brF (by simp)
  | .wr x p, K, h => by
    have a := kwF hz (w := "write") (by simp)
    have b := nmF (nm_shelf (x := x) h.1)
    obtain ⟨p1, p2, p3⟩ := itm_ok p h.2
    refine ⟨⟨a.1, b.1, p1, trivial⟩, by simp only [itmD, Itm.val, Itm.vals, a.2.1, b.2.1, p2, enc], fun w hw => ?_⟩
    simp only [wds, List.mem_cons, List.mem_append, List.not_mem_nil, or_false] at hw
    rcases hw with rfl | rfl | rfl | hw | rfl
    · exact brF (by simp)
    · exact a.2.2
    · exact b.2.2
    · exact p3 w hw
    · exact brF (by simp)
  | .say p, K, h => by
    have a := kwF hz (w := "say") (by simp)
    obtain ⟨p1, p2, p3⟩ := itm_ok p h
    refine ⟨⟨a.1, p1, trivial⟩, by simp only [itmD, Itm.val, Itm.vals, a.2.1, p2, enc], fun w hw => ?_⟩
    simp only [wds, List.mem_cons, List.mem_append, List.not_mem_nil, or_false] at hw
    rcases hw with rfl | rfl | hw | rfl
    · exact brF (by simp)
    · exact a.2.2
    · exact p3 w hw
    · exact brF (by simp)
  | .lt x p q, K, h => by
    have a := kwF hz (w := "let") (by simp)
    have b := nmF (nm_kd (x := x) (by rw [h.1]; decide))
    obtain ⟨p1, p2, p3⟩ := itm_ok p h.2.1
    obtain ⟨q1, q2, q3⟩ := itm_ok q h.2.2
    refine ⟨⟨a.1, b.1, p1, q1, trivial⟩, by simp only [itmD, Itm.val, Itm.vals, a.2.1, b.2.1, p2, q2, enc], fun w hw => ?_⟩
    simp only [wds, List.mem_cons, List.mem_append, List.not_mem_nil, or_false] at hw
    rcases hw with rfl | rfl | rfl | hw | hw | rfl
    · exact brF (by simp)
    · exact a.2.2
    · exact b.2.2
    · exact p3 w hw
    · exact q3 w hw
    · exact brF (by simp)
  | .own x p q, K, h => by
    have a := kwF hz (w := "own") (by simp)
    have b := nmF (nm_kd (x := x) (by rw [h.1]; decide))
    obtain ⟨p1, p2, p3⟩ := itm_ok p h.2.1
    obtain ⟨q1, q2, q3⟩ := itm_ok q h.2.2
    refine ⟨⟨a.1, b.1, p1, q1, trivial⟩, by simp only [itmD, Itm.val, Itm.vals, a.2.1, b.2.1, p2, q2, enc], fun w hw => ?_⟩
    simp only [wds, List.mem_cons, List.mem_append, List.not_mem_nil, or_false] at hw
    rcases hw with rfl | rfl | rfl | hw | hw | rfl
    · exact brF (by simp)
    · exact a.2.2
    · exact b.2.2
    · exact p3 w hw
    · exact q3 w hw
    · exact brF (by simp)
  | .iff p q r, K, h => by
    have a := kwF hz (w := "if") (by simp)
    obtain ⟨p1, p2, p3⟩ := itm_ok p h.1
    obtain ⟨q1, q2, q3⟩ := itm_ok q h.2.1
    obtain ⟨r1, r2, r3⟩ := itm_ok r h.2.2
    refine ⟨⟨a.1, p1, q1, r1, trivial⟩, by simp only [itmD, Itm.val, Itm.vals, a.2.1, p2, q2, r2, enc], fun w hw => ?_⟩
    simp only [wds, List.mem_cons, List.mem_append, List.not_mem_nil, or_false] at hw
    rcases hw with rfl | rfl | hw | hw | hw | rfl
    · exact brF (by simp)
    · exact a.2.2
    · exact p3 w hw
    · exact q3 w hw
    · exact r3 w hw
    · exact brF (by simp)
  | .two t p q, K, h => by
    have a := kwF hz (w := t.w) (by cases t <;> simp [Two.w])
    obtain ⟨p1, p2, p3⟩ := itm_ok p h.1
    obtain ⟨q1, q2, q3⟩ := itm_ok q h.2
    refine ⟨⟨a.1, p1, q1, trivial⟩, by simp only [itmD, Itm.val, Itm.vals, a.2.1, p2, q2, enc], fun w hw => ?_⟩
    simp only [wds, List.mem_cons, List.mem_append, List.not_mem_nil, or_false] at hw
    rcases hw with rfl | rfl | hw | hw | rfl
    · exact brF (by simp)
    · exact a.2.2
    · exact p3 w hw
    · exact q3 w hw
    · exact brF (by simp)
  | .call i ps hs, K, h => by
    have a := kwF hz (w := "call") (by simp)
    have li : i < sz.length := (List.getElem?_eq_some_iff.mp h.1).1
    have b := inF (i := (i : Int)) (by omega) (by omega)
    obtain ⟨p1, p2, p3⟩ := itms_ok ps h.2.1
    obtain ⟨q1, q2, q3⟩ := itms_ok hs h.2.2
    refine ⟨⟨a.1, b.1, p1, q1, trivial⟩, by simp only [itmD, Itm.val, Itm.vals, a.2.1, b.2.1, p2, q2, enc], fun w hw => ?_⟩
    simp only [wds, List.mem_cons, List.mem_append, List.not_mem_nil, or_false] at hw
    rcases hw with rfl | rfl | rfl | rfl | hw | rfl | rfl | hw | rfl | rfl
    · exact brF (by simp)
    · exact a.2.2
    · exact b.2.2
    · exact brF (by simp)
    · exact p3 w hw
    · exact brF (by simp)
    · exact brF (by simp)
    · exact q3 w hw
    · exact brF (by simp)
    · exact brF (by simp)
theorem itms_ok : ∀ (ds : List Deed) {K : List Str}, okDs sz K ds → Itm.oks (itmDs ds) ∧ Itm.vals (itmDs ds) = encs ds ∧ ∀ w ∈ wdss ds, wFit w
  | [], K, h => ⟨trivial, rfl, fun w hw => by cases hw⟩
  | d :: ds, K, h => by
    obtain ⟨p1, p2, p3⟩ := itm_ok d h.1
    obtain ⟨q1, q2, q3⟩ := itms_ok ds h.2
    refine ⟨⟨p1, q1⟩, by simp only [itmDs, Itm.vals, p2, q2, encs], fun w hw => ?_⟩
    simp only [wdss, List.mem_append] at hw
    rcases hw with hw | hw
    · exact p3 w hw
    · exact q3 w hw
end
end
mutual
theorem smN_ok {sz : List (Nat × Nat)} (hz : sz.length ≤ 1000) : ∀ (d : Deed) {K : List Str}, okD sz K d → smN d
  | .num i, K, h => h
  | .nam x, K, h => trivial
  | .dod x, K, h => trivial
  | .ask, K, h => trivial
  | .rd x, K, h => trivial
  | .wr x a, K, h => smN_ok hz a h.2
  | .say a, K, h => smN_ok hz a h
  | .lt x a b, K, h => ⟨smN_ok hz a h.2.1, smN_ok hz b h.2.2⟩
  | .own x a b, K, h => ⟨smN_ok hz a h.2.1, smN_ok hz b h.2.2⟩
  | .iff a b c, K, h => ⟨smN_ok hz a h.1, smN_ok hz b h.2.1, smN_ok hz c h.2.2⟩
  | .two w a b, K, h => ⟨smN_ok hz a h.1, smN_ok hz b h.2⟩
  | .call i ps hs, K, h => ⟨by have := (List.getElem?_eq_some_iff.mp h.1).1; omega, smNs_ok hz ps h.2.1, smNs_ok hz hs h.2.2⟩
theorem smNs_ok {sz : List (Nat × Nat)} (hz : sz.length ≤ 1000) : ∀ (ds : List Deed) {K : List Str}, okDs sz K ds → smNs ds
  | [], K, h => trivial
  | d :: ds, K, h => ⟨smN_ok hz d h.1, smNs_ok hz ds h.2⟩
end
theorem sum_len : ∀ {ws : List Str}, (∀ w ∈ ws, wFit w) → (ws.map (·.length)).sum ≤ 1000 * ws.length
  | [], _ => by simp
  | w :: ws, h => by
    have := (h w List.mem_cons_self).1
    have := sum_len (ws := ws) fun x hx => h x (List.mem_cons_of_mem _ hx)
    simp only [List.map_cons, List.sum_cons, List.length_cons]
    omega
def txtW (ws : List Str) : Str := Txt.join " " ws
theorem join_len (y : Str) : ∀ ws : List Str, (Txt.join y ws).length ≤ (ws.map (·.length)).sum + ws.length * y.length := by
  intro ws
  rw [TL.len_tl, TL.join_eq, TL.tl_join]
  have key : ∀ l : List (List Nat), (TL.joinL (TL.tl y) l).length ≤ (l.map List.length).sum + l.length * (TL.tl y).length := by
    intro l
    induction l with
    | nil => simp [TL.joinL]
    | cons a r ih =>
      cases r with
      | nil => simp [TL.joinL]
      | cons b r =>
        simp only [TL.joinL, List.length_append, List.map_cons, List.sum_cons, List.length_cons, Nat.succ_mul] at ih ⊢
        omega
  have := key (ws.map TL.tl)
  rw [List.length_map, List.map_map] at this
  have e : (List.length ∘ TL.tl) = fun w : Str => w.length := funext fun w => (TL.len_tl w).symm
  rw [e, ← TL.len_tl] at this
  exact this
theorem split_txt {ws : List Str} (hne : ws ≠ []) (h : ∀ w ∈ ws, wFit w) : Txt.split (txtW ws) " " = ws :=
  TL.split_join (y := " ") (s := 32) (S := []) (by decide +kernel) (by decide +kernel) hne fun p hp => (h p hp).2.2
theorem txt_fit {ws : List Str} (h : ∀ w ∈ ws, wFit w) (hl : ws.length ≤ 900) : (ws.map (·.length)).sum + ws.length * (" " : Str).length ≤ big ∧ (txtW ws).length + 2 ≤ big := by
  have a := sum_len h
  have b := join_len " " ws
  have c : (" " : Str).length = 1 := by decide +kernel
  have d : (1000000 : Nat) = big := rfl
  rw [c] at b ⊢
  unfold txtW
  omega
theorem written_T {d : Deed} {n : Nat} (hs : smN d) (hz : sizD d ≤ 110) (hf : ∀ w ∈ wds d, wFit w) (hn : dep d + 6 ≤ n) : tv (csem n .f_written) [encT d] = .ok (.str (txtW (wds d))) := by
  obtain ⟨n, rfl⟩ : ∃ j, n = j + 2 := ⟨n - 2, by omega⟩
  have lw := wds_len d
  have e := words_for_T (dep d) d (n + 1) (Nat.le_refl _) hs (by omega) (by omega)
  refine cq_f_written (t_run rfl (t_ret ?_)) (by simp)
  have c : tCall 1 (tv (csem (n + 1) .f_words_for)) (tCons (tVar 0) tNil) ([encT d].map some ++ List.replicate (1 - 1) none) = .ok (strsT (wds d)) := by simp [e]
  unfold tJoin
  rw [te_C, RT.bind_ok]
  dsimp only
  rw [c, RT.bind_ok]
  have : (litsT (strsT (wds d))).bind strsOfT = some (wds d) := strsOfT_map _
  rw [this]
  dsimp only
  rw [if_pos (txt_fit hf (by omega)).1]
  rfl
end DL
namespace DL
open PySem L2
section
variable {S : Sto} {hh L n : Nat} {w : Str} {ws rest : List Str} {ε : Env}
theorem left_ne (h : WS S hh L ws) (hj : ε[j]? = some (some (.ref hh))) : ∃ S', dBin oNe (dFld "left" (dVar j)) (dLst dNil) ε S = .ok (.bl (!decide (ws = []))) S' ∧ S <+: S' := by
  have e1 : dLst dNil ε S = .ok (.ref S.length) (S ++ [.lst []]) := rfl
  have p := List.prefix_append S [O.lst []]
  refine ⟨_, eBin (eFld (eZ (zV hj)) h.o rfl) e1 (neH (rd_strs (pre_get p h.l)) (rd_strs (l := []) getLast_app) ?_), p⟩
  rw [qNe_fine (fine_strsT fun x hx => h.sk x (List.mem_reverse.mp hx)) (fine_strsT fun x hx => by cases hx)]
  congr 3
  refine decide_eq_decide.mpr ?_
  unfold strsT
  cases ws with
  | nil => simp
  | cons a b => simp
theorem make_words {a : Den} {x : Str} (ha : ZE a ε (.str x)) (hx : x.length + 2 ≤ big) (hw : Txt.split x " " = ws) (hs : ∀ w ∈ ws, sok w = true) :
    ∃ S', dMake "Words" 2 (csem (n + 2) .m_Words_init) (dCons (dSplit a (dC (.str " "))) dNil) ε S = .ok (.ref (S.length + 1)) S' ∧ WS S' (S.length + 1) (S.length + 2) ws ∧ S <+: S' := by
  have sp : dSplit a (dC (.str " ")) ε S = .ok (.ref S.length) (S ++ [.lst (ws.map .str)]) := by
    unfold dSplit
    rw [ha S, x_bind]
    dsimp only
    rw [x_C, x_bind]
    dsimp only
    rw [if_pos ⟨by decide +kernel, hx⟩, hw]
  let S1 : Sto := S ++ [.lst (ws.map .str)]
  let S2 : Sto := S1 ++ [.ins "Words" []]
  let S3 : Sto := S2 ++ [.lst (ws.reverse.map .str)]
  have l1 : S1.length = S.length + 1 := by simp [S1]
  have l2 : S2.length = S.length + 2 := by simp [S2, S1]
  have g0 : S2[S.length]? = some (.lst (ws.map .str)) := pre_get (List.prefix_append _ _) getLast_app
  have rv : dRev (dVar 1) [some (.ref (S.length + 1)), some (.ref S.length)] S2 = .ok (.ref (S.length + 2)) S3 := by
    unfold dRev
    rw [eZ (zV (i := 1) (d := .ref S.length) rfl), x_bind]
    have : litems S2 (.ref S.length) = some (ws.map .str) := by simp only [litems, g0]
    simp only [this]
    rw [← List.map_reverse, l2]
  have gi : S3[S.length + 1]? = some (.ins "Words" []) := by
    have : S2[S1.length]? = some (.ins "Words" []) := getLast_app
    rw [l1] at this
    exact pre_get (List.prefix_append _ _) this
  have gl : S3[S.length + 2]? = some (.lst (ws.reverse.map .str)) := by
    have : S3[S2.length]? = some (.lst (ws.reverse.map .str)) := getLast_app
    rwa [l2] at this
  have li := (List.getElem?_eq_some_iff.mp gi).1
  refine ⟨S3.set (S.length + 1) (.ins "Words" [("left", .ref (S.length + 2))]), ?_, ⟨List.getElem?_set_self li, by rw [List.getElem?_set_ne (by omega)]; exact gl, by omega, hs⟩, ?_⟩
  · have k : csem (n + 2) .m_Words_init [.ref S1.length, .ref S.length] (S1 ++ [.ins "Words" []]) = .ok .non (S3.set (S.length + 1) (.ins "Words" [("left", .ref (S.length + 2))])) := by
      rw [cs_m_Words_init, l1]
      unfold b_m_Words_init
      exact run_nx (eSetF rv (eZ (zV (i := 0) (d := .ref (S.length + 1)) rfl)) gi (by decide))
    have := eMake (c := "Words") (np := 2) (eCons sp eNil) k
    rwa [show (S ++ [O.lst (ws.map .str)]).length = S.length + 1 from l1] at this
  · refine pre_ofT (by rw [List.length_set]; simp [S3, S2, S1]) fun j o hj e => ?_
    rw [List.getElem?_set_ne (by omega)]
    exact pre_get (((List.prefix_append _ _).trans (List.prefix_append _ _)).trans (List.prefix_append _ _)) e
end
theorem orFb {p q : DenB} {ε : Env} {A B C : Sto} (h1 : p ε A = .ok false B) (h2 : q ε B = .ok false C) : bOr p q ε A = .ok false C := by
  rw [x_Or, h1, x_bind, if_neg (by decide), h2]
theorem notTb {p : Den} {ε : Env} {A B : Sto} (h : p ε A = .ok (.bl true) B) : bNot (dTest p) ε A = .ok false B := by
  rw [x_Not, eTest h, x_bind]
  rfl
theorem read_sem {rs : List Rule} {d : Deed} {n : Nat} {S : Sto} (R : RsLaw rs) (ho : okD (szs rs) [] d) (hz : sizD d ≤ 110) (hd : dep d ≤ 20) (hn : 4 * dep d + 20 ≤ n) (hb : tv (csem n .f_is_deed) [encRsT rs, encT d] = .ok (.bl true)) :
    ∃ S', csem (n + 1) .f_read [encRs rs, .str (txtW (wds d))] S = .ok (enc d) S' ∧ S <+: S' := by
  obtain ⟨n, rfl⟩ : ∃ j, n = j + 3 := ⟨n - 3, by omega⟩
  have hsz : (szs rs).length ≤ 1000 := by
    have := R.len
    simp [szs]
    omega
  obtain ⟨i1, i2, i3⟩ := itm_ok hsz d ho
  have lw := wds_len d
  have ne : wds d ≠ [] := by cases d <;> simp [wds]
  have fit := txt_fit i3 (by omega)
  let text := txtW (wds d)
  let ε1 (x2 x3 : Option D) : Env := [some (encRs rs), some (.str text), x2, x3]
  obtain ⟨S1, e1, h1, p1⟩ := make_words (n := n) (S := S) (ε := ε1 none none) (a := dVar 1) (x := text) (ws := wds d) (zV rfl) fit.2 (split_txt ne i3) (fun w hw => (i3 w hw).2.1)
  have hw : wds d = ("(" : Str) :: (wds d).tail := by cases d <;> rfl
  rw [hw] at h1
  obtain ⟨S2, e2, h2, f2⟩ := nextw_sem (n := n + 1) h1
  have hwi : Itm.ws (itmD d) = ("(" : Str) :: (wds d).tail := by rw [ws_itm]; exact hw
  have dp := dp_itm d
  obtain ⟨S3, e3, h3, f3⟩ := thing_itm (hh := S.length + 1) (L := S.length + 2) (itmD d) (n + 3) S2 [] "(" (wds d).tail 120 hwi (by rw [List.append_nil]; exact h2) i1 (by omega) (by omega) (by rw [ws_itm]; omega)
  rw [i2] at e3
  let hh := S.length + 1
  obtain ⟨S4, e4, p4⟩ := left_ne (ε := ε1 (some (.ref hh)) (some (enc d))) (j := 2) h3 rfl
  have pa : plTs [encRsT rs, encT d] = true := by simp [plTs, (unT_rules rs).2, (unT_enc d).2]
  have ua : unTs [encRsT rs, encT d] = [encRs rs, enc d] := by simp [unTs, (unT_rules rs).1, (unT_enc d).1]
  have fA := tv_at (csem (n + 3) .f_is_deed) [encRsT rs, encT d] nowhere S4 _ (rds_pl pa) (fun _ q => q.elim)
  rw [hb, ua] at fA
  obtain ⟨S5, b5, e5, p5, r5⟩ := fA
  cases r5
  have wt := written_T (n := n + 3) (smN_ok hsz d ho) hz i3 (by omega)
  have pb : plTs [encT d] = true := by simp [plTs, (unT_enc d).2]
  have ub : unTs [encT d] = [enc d] := by simp [unTs, (unT_enc d).1]
  have fB := tv_at (csem (n + 3) .f_written) [encT d] nowhere S5 _ (rds_pl pb) (fun _ q => q.elim)
  rw [wt, ub] at fB
  obtain ⟨S6, b6, e6, p6, r6⟩ := fB
  cases r6
  have f13 := (f2.trans f3)
  have p13 : S <+: S3 := pre_ofT (by have := p1.length_le; have := f13.len; omega) fun j o hj e => f13.keep j o (by omega) (pre_get p1 e)
  refine ⟨S6, ?_, p13.trans (p4.trans (p5.trans p6))⟩
  rw [show n + 3 + 1 = (n + 2) + 2 from rfl, cs_f_read]
  unfold b_f_read
  have vh : ZE (dVar 2) (ε1 (some (.ref hh)) none) (.ref hh) := zV rfl
  refine run_rt (eLet (ε' := ε1 (some (.ref hh)) none) e1 (eLet (ε' := ε1 (some (.ref hh)) (some (enc d))) (eMeth (eZ vh) h1.o rfl (eCons (eMeth (eZ vh) h1.o rfl eNil e2) (eCons (eBin (eZ zC) (eZ zC) rfl) eNil)) e3) (eSkip (orFb (eTest e4) (orFb (B := S5) ?_ ?_)) (eRet (eZ (zV (i := 3) (d := enc d) rfl))))))
  · exact notTb (eCall (eCons (eZ (zV (i := 0) (d := encRs rs) rfl)) (eCons (eZ (zV (i := 3) (d := enc d) rfl)) eNil)) e5)
  · refine eTest (eBin (eCall (eCons (eZ (zV (i := 3) (d := enc d) rfl)) eNil) e6) (eZ (zV (i := 1) (d := .str text) rfl)) ?_)
    show DL.R.ok (D.bl (!decide (text = text))) S6 = _
    simp
theorem read_T {rs : List Rule} {d : Deed} {n : Nat} (R : RsLaw rs) (ho : okD (szs rs) [] d) (hz : sizD d ≤ 110) (hd : dep d ≤ 20) (hn : 4 * dep d + 21 ≤ n) (hb : tv (csem (n - 1) .f_is_deed) [encRsT rs, encT d] = .ok (.bl true)) :
    tv (csem n .f_read) [encRsT rs, .str (txtW (wds d))] = .ok (encT d) := tv_ok fun Φ S es r hB => by
  obtain ⟨n, rfl⟩ : ∃ j, n = j + 1 := ⟨n - 1, by omega⟩
  have pa : plTs [encRsT rs, .str (txtW (wds d))] = true := by simp [plTs, (unT_rules rs).2, plT]
  have ua : unTs [encRsT rs, .str (txtW (wds d))] = [encRs rs, .str (txtW (wds d))] := by simp [unTs, (unT_rules rs).1, unT]
  rw [ofs_pl pa r, ua]
  obtain ⟨S', e, p⟩ := read_sem (S := S) R ho hz hd (by omega) hb
  refine ⟨S', _, e, p, ?_⟩
  have := rd_pl (Φ := Φ) (S := S') (unT_enc d).2
  rwa [(unT_enc d).1] at this
end DL
namespace Lk80
open PySem L2 DL
inductive LF where
  | f__law_words
  | f_law
def b_f__law_words (c c2 : CF → Fn) (l l2 : LF → Fn) : SDen :=
    (sSeq (sIf (bNot (dTest (dIsi "tuple" (dVar 0)))) (sRet (dLst (dCons (dFn fStrX (dCons (dVar 0) dNil)) dNil))) sNil)
    (sSeq (sAsg (dLst dNil) (gN 2))
    (sSeq (sFor (iAny (dVar 0)) (gN 3) (sAsg (dBin oAdd (dVar 2) (dCall 2 (l .f__law_words) (dCons (dVar 3) (dCons (dOrV (dNotV (dVar 1)) (dBin oNe (dBin oGet (dVar 0) (dC (.int 0))) (dC (.str "call")))) dNil)))) (gN 2)))
    (sSeq (sIf (dTest (dVar 1)) (sRet (dBin oAdd (dBin oAdd (dLst (dCons (dC (.str "(")) dNil)) (dVar 2)) (dLst (dCons (dC (.str ")")) dNil)))) sNil)
    (sRet (dBin oAdd (dBin oAdd (dLst (dCons (dC (.str "[")) dNil)) (dVar 2)) (dLst (dCons (dC (.str "]")) dNil))))))))
def b_f_law (c c2 : CF → Fn) (l l2 : LF → Fn) : SDen :=
    (sSeq (sAsg (dCall 2 (c .f__law_rules) (dCons (dVar 0) (dCons (dC (.int 1)) dNil))) (gN 1))
    (sSeq (sAsg (dCall 4 (c .f__law_light) (dCons (dVar 0) (dCons (dC (.int 90)) (dCons (dC (.int 2)) (dCons (dVar 1) dNil))))) (gN 2))
    (sSeq (sAsg (dCall 1 (c .f_written) (dCons (dVar 2) dNil)) (gN 3))
    (sSeq (sIf (dTest (dBin oNe (dVar 3) (dJoin (dC (.str " ")) (dCall 2 (l .f__law_words) (dCons (dVar 2) (dCons (dC (.bl true)) dNil)))))) (sRet (dC (.bl false))) sNil)
    (sRet (dOrV (dNotV (dCall 2 (c .f_is_deed) (dCons (dVar 1) (dCons (dVar 2) dNil)))) (dBin oEq (dCall 2 (c .f_read) (dCons (dVar 1) (dCons (dVar 3) dNil))) (dVar 2))))))))
def lbody (c c2 : CF → Fn) (l l2 : LF → Fn) : LF → Fn
  | .f__law_words => runFn 2 4 (b_f__law_words c c2 l l2)
  | .f_law => runFn 1 4 (b_f_law c c2 l l2)
def lsem : Nat → LF → Fn
  | 0 => fun _ _ _ => .bad
  | 1 => fun _ _ _ => .bad
  | n + 2 => lbody (csem (n + 1)) (csem n) (lsem (n + 1)) (lsem n)
theorem ls_f__law_words (n : Nat) : lsem (n + 2) .f__law_words = runFn 2 4 (b_f__law_words (csem (n + 1)) (csem n) (lsem (n + 1)) (lsem n)) := rfl
theorem ls_f_law (n : Nat) : lsem (n + 2) .f_law = runFn 1 4 (b_f_law (csem (n + 1)) (csem n) (lsem (n + 1)) (lsem n)) := rfl
end Lk80
namespace Lk80
open PySem DL
noncomputable def lt_f__law_words (c : CF → TFn) (l : LF → TFn) (o o2 : CF → OFn) : TSDen :=
    (tsSeq (tsIf (tbNot (tTest (tIsi "tuple" (tVar 0)))) (tsRet (tLst (tCons (tFn qStrX (tCons (tVar 0) tNil)) tNil))) tsNil)
    (tsSeq (tsAsg (tLst tNil) (hN 2))
    (tsSeq (tsFor (tiAny (tVar 0)) (hN 3) (tsAsg (tBin qAdd (tVar 2) (tCall 2 (l .f__law_words) (tCons (tVar 3) (tCons (tOrV (tNotV (tVar 1)) (tBin qNe (tBin qGet (tVar 0) (tC (.int 0))) (tC (.str "call")))) tNil)))) (hN 2)))
    (tsSeq (tsIf (tTest (tVar 1)) (tsRet (tBin qAdd (tBin qAdd (tLst (tCons (tC (.str "(")) tNil)) (tVar 2)) (tLst (tCons (tC (.str ")")) tNil)))) tsNil)
    (tsRet (tBin qAdd (tBin qAdd (tLst (tCons (tC (.str "[")) tNil)) (tVar 2)) (tLst (tCons (tC (.str "]")) tNil))))))))
theorem lst_f__law_words (c c2 : CF → Fn) (l l2 : LF → Fn) : SndS none none (b_f__law_words c c2 l l2) (lt_f__law_words (fun g => tv (c g)) (fun g => tv (l g)) (ov c) (ov c2)) := by
  unfold b_f__law_words lt_f__law_words
  exact (ss_seq (ss_if (snd_not (snd_test (snd_isi snd_var))) (ss_ret (snd_lst (snd_cons (snd_fn sf_strX (snd_cons snd_var snd_nil)) snd_nil))) ss_nil)
    (ss_seq (ss_asg (snd_lst snd_nil) (sg_name 2))
    (ss_seq (ss_for (si_any snd_var) (sg_name 3) (ss_asg (snd_bin sq_add snd_var (snd_call (tv_T _) (snd_cons snd_var (snd_cons (snd_orV (snd_notV snd_var) (snd_bin sq_ne (snd_bin sq_get snd_var snd_int) snd_str)) snd_nil)))) (sg_name 2)))
    (ss_seq (ss_if (snd_test snd_var) (ss_ret (snd_bin sq_add (snd_bin sq_add (snd_lst (snd_cons snd_str snd_nil)) snd_var) (snd_lst (snd_cons snd_str snd_nil)))) ss_nil)
    (ss_ret (snd_bin sq_add (snd_bin sq_add (snd_lst (snd_cons snd_str snd_nil)) snd_var) (snd_lst (snd_cons snd_str snd_nil))))))))
theorem lq_f__law_words {n : Nat} {ts : List T} {r : RT T} (e : trun 2 4 (lt_f__law_words (fun g => tv (csem (n + 1) g)) (fun g => tv (lsem (n + 1) g)) (ov (csem (n + 1))) (ov (csem n))) ts = r) (hr : r ≠ .bad) : tv (lsem (n + 2) .f__law_words) ts = r := tv_of (by rw [ls_f__law_words]; exact fn_T (lst_f__law_words _ _ _ _)) e hr
noncomputable def lt_f_law (c : CF → TFn) (l : LF → TFn) (o o2 : CF → OFn) : TSDen :=
    (tsSeq (tsAsg (tCall 2 (c .f__law_rules) (tCons (tVar 0) (tCons (tC (.int 1)) tNil))) (hN 1))
    (tsSeq (tsAsg (tCall 4 (c .f__law_light) (tCons (tVar 0) (tCons (tC (.int 90)) (tCons (tC (.int 2)) (tCons (tVar 1) tNil))))) (hN 2))
    (tsSeq (tsAsg (tCall 1 (c .f_written) (tCons (tVar 2) tNil)) (hN 3))
    (tsSeq (tsIf (tTest (tBin qNe (tVar 3) (tJoin (tC (.str " ")) (tCall 2 (l .f__law_words) (tCons (tVar 2) (tCons (tC (.bl true)) tNil)))))) (tsRet (tC (.bl false))) tsNil)
    (tsRet (tOrV (tNotV (tCall 2 (c .f_is_deed) (tCons (tVar 1) (tCons (tVar 2) tNil)))) (tBin qEq (tCall 2 (c .f_read) (tCons (tVar 1) (tCons (tVar 3) tNil))) (tVar 2))))))))
theorem lst_f_law (c c2 : CF → Fn) (l l2 : LF → Fn) : SndS none none (b_f_law c c2 l l2) (lt_f_law (fun g => tv (c g)) (fun g => tv (l g)) (ov c) (ov c2)) := by
  unfold b_f_law lt_f_law
  exact (ss_seq (ss_asg (snd_call (tv_T _) (snd_cons snd_var (snd_cons snd_int snd_nil))) (sg_name 1))
    (ss_seq (ss_asg (snd_call (tv_T _) (snd_cons snd_var (snd_cons snd_int (snd_cons snd_int (snd_cons snd_var snd_nil))))) (sg_name 2))
    (ss_seq (ss_asg (snd_call (tv_T _) (snd_cons snd_var snd_nil)) (sg_name 3))
    (ss_seq (ss_if (snd_test (snd_bin sq_ne snd_var (snd_join snd_str (snd_call (tv_T _) (snd_cons snd_var (snd_cons snd_bl snd_nil)))))) (ss_ret snd_bl) ss_nil)
    (ss_ret (snd_orV (snd_notV (snd_call (tv_T _) (snd_cons snd_var (snd_cons snd_var snd_nil)))) (snd_bin sq_eq (snd_call (tv_T _) (snd_cons snd_var (snd_cons snd_var snd_nil))) snd_var)))))))
theorem lq_f_law {n : Nat} {ts : List T} {r : RT T} (e : trun 1 4 (lt_f_law (fun g => tv (csem (n + 1) g)) (fun g => tv (lsem (n + 1) g)) (ov (csem (n + 1))) (ov (csem n))) ts = r) (hr : r ≠ .bad) : tv (lsem (n + 2) .f_law) ts = r := tv_of (by rw [ls_f_law]; exact fn_T (lst_f_law _ _ _ _)) e hr
end Lk80
set_option maxHeartbeats 1000000
namespace Lk80
open PySem DL
theorem lw_leaf {n : Nat} {t : T} {b : Bool} {x : Str} (ho : okTop t) (ht : isTp t = false) (hx : qStrX [t] = .ok (.str x)) : tv (lsem (n + 2) .f__law_words) [t, .bl b] = .ok (strsT [x]) := by
  refine lq_f__law_words (t_run rfl ?_) (by simp)
  unfold lt_f__law_words
  have hi : tTest (tIsi "tuple" (tVar 0)) [some t, some (.bl b), none, none] = .ok false := isi_at rfl (by rw [← ht]; exact kit_top ho)
  refine t_seqR (t_if (b := true) (by
    show (tTest (tIsi "tuple" (tVar 0)) [some t, some (.bl b), none, none]).bind _ = _
    rw [hi]
    rfl) ?_)
  rw [if_pos rfl]
  exact t_ret (by simp [hx, strsT])
theorem lw_loop {F : List T → RT T} {D : T} {b b' : Bool} {fl : TDen} (hfl : ∀ z2 z3, fl [some D, some (.bl b), z2, z3] = .ok (.bl b')) {α : Type} {f : α → T} {g : α → List Str} : ∀ (l : List α) (acc : List Str) (z3 : Option T), (∀ a ∈ l, F [f a, .bl b'] = .ok (strsT (g a))) → acc.length + (l.flatMap g).length ≤ 1000000 →
    ∃ z3', tForL (hN 3) (tsAsg (tBin qAdd (tVar 2) (tCall 2 F (tCons (tVar 3) (tCons fl tNil)))) (hN 2)) (l.map f) [some D, some (.bl b), some (strsT acc), z3] = .ok (.nx [some D, some (.bl b), some (strsT (acc ++ l.flatMap g)), z3'])
  | [], acc, z3, _, _ => ⟨z3, by simp [tForL]⟩
  | a :: l, acc, z3, h, hb => by
    have h1 := h a List.mem_cons_self
    rw [List.flatMap_cons, List.length_append] at hb
    obtain ⟨z, e⟩ := lw_loop hfl l (acc ++ g a) (some (f a)) (fun q hq => h q (List.mem_cons_of_mem _ hq)) (by rw [List.length_append]; omega)
    refine ⟨z, ?_⟩
    have ad := strs_add (a := acc) (b := g a) (by omega)
    have step : tsAsg (tBin qAdd (tVar 2) (tCall 2 F (tCons (tVar 3) (tCons fl tNil)))) (hN 2) [some D, some (.bl b), some (strsT acc), some (f a)] = .ok (.nx [some D, some (.bl b), some (strsT (acc ++ g a)), some (f a)]) := t_asg1 (t := strsT (acc ++ g a)) (by simp [hfl, h1, ad]) rfl
    rw [List.map_cons]
    unfold tForL
    simp only [te_hN, List.set_cons_succ, List.set_cons_zero, step, tsN]
    rw [e]
    simp
theorem lw_tup {n : Nat} {ts : List T} {b b' : Bool} {α : Type} {f : α → T} {g : α → List Str} (l : List α) (hl : ts = l.map f) (hfl : ∀ z2 z3, tOrV (tNotV (tVar 1)) (tBin qNe (tBin qGet (tVar 0) (tC (.int 0))) (tC (.str "call"))) [some (.tup ts), some (.bl b), z2, z3] = .ok (.bl b'))
    (h : ∀ a ∈ l, tv (lsem (n + 1) .f__law_words) [f a, .bl b'] = .ok (strsT (g a))) (hb : (l.flatMap g).length ≤ 900000) : tv (lsem (n + 2) .f__law_words) [.tup ts, .bl b] = .ok (strsT ((if b then (["("] : List Str) else ["["]) ++ l.flatMap g ++ (if b then ([")"] : List Str) else ["]"]))) := by
  refine lq_f__law_words (t_run rfl ?_) (by simp)
  unfold lt_f__law_words
  have hi : tTest (tIsi "tuple" (tVar 0)) [some (.tup ts), some (.bl b), none, none] = .ok true := isi_at rfl (by show L2.kitB "tuple" "tuple" = some true; decide +kernel)
  refine t_skip (by
    show (tTest (tIsi "tuple" (tVar 0)) [some (.tup ts), some (.bl b), none, none]).bind _ = _
    rw [hi]
    rfl) ?_
  refine t_asg (t := strsT []) (by simp [strsT]) rfl ?_
  obtain ⟨z3, el⟩ := lw_loop (F := tv (lsem (n + 1) .f__law_words)) (D := .tup ts) (b := b) hfl l [] none h (by simpa using (by omega : (l.flatMap g).length ≤ 1000000))
  refine t_seq (t_for (ti_any (l := .tup (l.map f)) (by simp [hl]) (.inr (.inl rfl))) el) ?_
  rw [List.nil_append]
  cases b with
  | true =>
    have a1 := strs_add (a := ["("]) (b := l.flatMap g) (by simp only [List.length_cons, List.length_nil]; omega)
    have a2 := strs_add (a := (["("] : List Str) ++ l.flatMap g) (b := [")"]) (by simp only [List.length_cons, List.length_nil, List.length_append]; omega)
    have a1' : qAdd (.lst [.str "("]) (strsT (l.flatMap g)) = _ := a1
    have a2' : qAdd (strsT ((["("] : List Str) ++ l.flatMap g)) (.lst [.str ")"]) = _ := a2
    simp only [List.cons_append, List.nil_append] at a1' a2'
    refine t_seqR (t_if (b := true) (by simp) ?_)
    rw [if_pos rfl]
    exact t_ret (by simp [a1', a2'])
  | false =>
    have a1 := strs_add (a := ["["]) (b := l.flatMap g) (by simp only [List.length_cons, List.length_nil]; omega)
    have a2 := strs_add (a := (["["] : List Str) ++ l.flatMap g) (b := ["]"]) (by simp only [List.length_cons, List.length_nil, List.length_append]; omega)
    have a1' : qAdd (.lst [.str "["]) (strsT (l.flatMap g)) = _ := a1
    have a2' : qAdd (strsT ((["["] : List Str) ++ l.flatMap g)) (.lst [.str "]"]) = _ := a2
    simp only [List.cons_append, List.nil_append] at a1' a2'
    refine t_skip (by simp) (t_ret ?_)
    simp [a1', a2']
theorem fl_true {w : Str} {ts : List T} (hw : w ≠ "call") (z2 z3 : Option T) : tOrV (tNotV (tVar 1)) (tBin qNe (tBin qGet (tVar 0) (tC (.int 0))) (tC (.str "call"))) [some (.tup (.str w :: ts)), some (.bl true), z2, z3] = .ok (.bl true) := by
  simp [tOrV, tNotV, hw]
theorem fl_call {ts : List T} (z2 z3 : Option T) : tOrV (tNotV (tVar 1)) (tBin qNe (tBin qGet (tVar 0) (tC (.int 0))) (tC (.str "call"))) [some (.tup (.str "call" :: ts)), some (.bl true), z2, z3] = .ok (.bl false) := by
  simp [tOrV, tNotV]
theorem fl_false {ts : List T} (z2 z3 : Option T) : tOrV (tNotV (tVar 1)) (tBin qNe (tBin qGet (tVar 0) (tC (.int 0))) (tC (.str "call"))) [some (.tup ts), some (.bl false), z2, z3] = .ok (.bl true) := by
  simp [tOrV, tNotV]
theorem lwords_T : ∀ (k : Nat) (d : Deed) (n : Nat), dep d ≤ k → smN d → sizD d ≤ 110 → 2 * k + 4 ≤ n → tv (lsem n .f__law_words) [encT d, .bl true] = .ok (strsT (wds d)) := by
  have non : ∀ (d : Deed) (m : Nat), isCall d = false → smN d → sizD d ≤ 110 → (∀ p, It.d p ∈ itsD d → tv (lsem (m + 2) .f__law_words) [encT p, .bl true] = .ok (strsT (wds p))) → tv (lsem (m + 3) .f__law_words) [encT d, .bl true] = .ok (strsT (wds d)) := fun d m hc hs hz hp => by
    have lw := wds_len d
    rw [wds_its hc] at lw
    simp only [List.length_cons, List.length_append, List.length_nil] at lw
    have e := lw_tup (n := m + 1) (ts := .str (hdD d) :: (itsD d).map itT) (b := true) (b' := true) (f := itT) (g := itS) (It.w (hdD d) :: itsD d) rfl (fl_true (hd_call hc)) (fun a ha => ?_) (by
      rw [List.flatMap_cons, List.length_append]
      simp only [itS, List.length_cons, List.length_nil]
      omega)
    · rw [enc_its hc, e, wds_its hc]
      simp [itS]
    · rcases List.mem_cons.mp ha with rfl | ha
      · exact lw_leaf (okTop_str _) rfl rfl
      · cases a with
        | w x => exact lw_leaf (okTop_str _) rfl rfl
        | i n =>
          have sm := smN_i hs ha
          exact lw_leaf (itT_top (.i n)) rfl (by
            show qStrX [.int n] = _
            unfold qStrX one1
            dsimp only
            rw [if_pos (log_small sm.1 sm.2)]
            rfl)
        | d p => exact hp p ha
  intro k
  induction k with
  | zero =>
    intro d n hd hs hz hn
    obtain ⟨m, rfl⟩ : ∃ m, n = m + 3 := ⟨n - 3, by omega⟩
    have hc : isCall d = false := by cases d <;> simp only [dep] at hd <;> first | omega | rfl
    exact non d m hc hs hz fun p hp => by have := its_dep hp; omega
  | succ k ih =>
    intro d n hd hs hz hn
    obtain ⟨m, rfl⟩ : ∃ m, n = m + 3 := ⟨n - 3, by omega⟩
    cases hc : isCall d with
    | false => exact non d m hc hs hz fun p hp => ih p (m + 2) (by have := its_dep hp; omega) (smN_d hs hp) (by have := siz_its hp; omega) (by omega)
    | true =>
      cases d <;> first | (cases hc; done) | skip
      rename_i i ps hs'
      simp only [sizD] at hz
      simp only [smN] at hs
      have l1 := wdss_len ps
      have l2 := wdss_len hs'
      rw [wdss_map] at l1 l2
      have hp : ∀ p ∈ ps ++ hs', tv (lsem (m + 1) .f__law_words) [encT p, .bl true] = .ok (strsT (wds p)) := fun p hp => by
        have dp := dep_call (i := i) (ps := ps) (hs := hs') (List.mem_append.mp hp)
        refine ih p (m + 1) (by omega) ?_ ?_ (by omega)
        · rcases List.mem_append.mp hp with h | h
          · exact smNs_iff.mp hs.2.1 p h
          · exact smNs_iff.mp hs.2.2 p h
        · rcases List.mem_append.mp hp with h | h
          · have := siz_in h; omega
          · have := siz_in h; omega
      have lg := log_small (i := (i : Int)) (by omega) (by omega)
      have e1 := lw_tup (n := m) (ts := ps.map encT) (b := false) (b' := true) (f := encT) (g := wds) ps rfl fl_false (fun p h => hp p (List.mem_append_left _ h)) (by omega)
      have e2 := lw_tup (n := m) (ts := hs'.map encT) (b := false) (b' := true) (f := encT) (g := wds) hs' rfl fl_false (fun p h => hp p (List.mem_append_right _ h)) (by omega)
      have e := lw_tup (n := m + 1) (ts := [.str "call", .int i, .tup (ps.map encT), .tup (hs'.map encT)]) (b := true) (b' := false) (f := Prod.fst) (g := Prod.snd)
        [(T.str "call", (["call"] : List Str)), (T.int i, [toS i]), (T.tup (ps.map encT), (["["] : List Str) ++ ps.flatMap wds ++ (["]"] : List Str)), (T.tup (hs'.map encT), (["["] : List Str) ++ hs'.flatMap wds ++ (["]"] : List Str))] rfl fl_call (fun a ha => ?_) (by
          simp only [List.flatMap_cons, List.flatMap_nil, List.length_append, List.length_cons, List.length_nil]
          omega)
      · rw [enc_call, e]
        simp [wds, wdss_map]
      · simp only [List.mem_cons, List.not_mem_nil, or_false] at ha
        rcases ha with rfl | rfl | rfl | rfl
        · exact lw_leaf (okTop_str _) rfl rfl
        · exact lw_leaf (itT_top (.i i)) rfl (by
            show qStrX [.int (i : Int)] = _
            unfold qStrX one1
            dsimp only
            rw [if_pos lg]
            rfl)
        · exact e1
        · exact e2
theorem law_T (ns : List Int) (hl : ns.length ≤ 63) : tv (lsem 231 .f_law) [tscr ns] = .ok (.bl true) := by
  obtain ⟨rs, R, e1⟩ := rules_T (ns := ns) (t := 1) 230 hl (by decide)
  obtain ⟨d, q0, o0, p0, w0⟩ := light_T (ns := ns) (t := 90) (dd := 2) 230 hl (by decide) R 2 (by decide)
  have hz : ∀ (i a b : Nat), (szs rs)[i]? = some (a, b) → a + b ≤ 4 := fun i a b h => by
    obtain ⟨r, hr, rfl, rfl⟩ := szs_get h
    have := R.sz r (List.mem_of_getElem? hr)
    omega
  have zd : sizD d ≤ 25 := siz_dep hz 2 d p0 o0
  have hsz : (szs rs).length ≤ 1000 := by
    have := R.len
    simp [szs]
    omega
  have sm := smN_ok hsz d o0
  have fit := (itm_ok hsz d o0).2.2
  have lw := wds_len d
  have wt := written_T (n := 230) sm (by omega) fit (by omega)
  have lwd := lwords_T 2 d 230 p0 sm (by omega) (by omega)
  have hs2 : ∀ r ∈ rs, r.ns.length ≤ 100 ∧ r.hs.length ≤ 100 := fun r h => by have := R.sz r h; omega
  have isd := isdeed_T (n := 230) (rs := rs) (d := d) (by have := R.len; omega) hs2 o0 (by omega) (by omega) (by omega)
  have isd' := isdeed_T (n := 229) (rs := rs) (d := d) (by have := R.len; omega) hs2 o0 (by omega) (by omega) (by omega)
  have jn : tJoin (tC (.str " ")) (tCall 2 (tv (lsem (229 + 1) .f__law_words)) (tCons (tVar 2) (tCons (tC (.bl true)) tNil))) [some (tscr ns), some (encRsT rs), some (encT d), some (.str (txtW (wds d)))] = .ok (.str (txtW (wds d))) := by
    have c : tCall 2 (tv (lsem (229 + 1) .f__law_words)) (tCons (tVar 2) (tCons (tC (.bl true)) tNil)) [some (tscr ns), some (encRsT rs), some (encT d), some (.str (txtW (wds d)))] = .ok (strsT (wds d)) := by simp [lwd]
    unfold tJoin
    rw [te_C, RT.bind_ok]
    dsimp only
    rw [c, RT.bind_ok]
    have : (litsT (strsT (wds d))).bind strsOfT = some (wds d) := strsOfT_map _
    rw [this]
    dsimp only
    rw [if_pos (txt_fit fit (by omega)).1]
    rfl
  refine lq_f_law (n := 229) ?_ (by simp)
  refine t_run rfl ?_
  unfold lt_f_law
  refine t_asg (t := encRsT rs) (by simp [e1]) rfl ?_
  refine t_asg (t := encT d) (by simp [q0]) rfl ?_
  refine t_asg (t := .str (txtW (wds d))) (by simp [wt]) rfl ?_
  refine t_skip (show tTest (tBin qNe (tVar 3) (tJoin (tC (.str " ")) (tCall 2 (tv (lsem (229 + 1) .f__law_words)) (tCons (tVar 2) (tCons (tC (.bl true)) tNil))))) [some (tscr ns), some (encRsT rs), some (encT d), some (.str (txtW (wds d)))] = .ok false from ?_) ?_
  · rw [te_test, te_bin, jn]
    simp
  refine t_ret ?_
  have rd := read_T (n := 230) R o0 (by omega) (by omega) (by omega) isd'
  have fe : Fine (encT d) := fine_enc 2 d 38 p0 o0 (by decide)
  simp [tOrV, tNotV, isd, rd, qEq_same fe rfl]
theorem law_true (ns : List Int) (hl : ns.length ≤ 63) : ∃ S, lsem 231 .f_law [.seq (ns.map D.int)] [] = .ok (.bl true) S := law_end (law_T ns hl)
end Lk80
set_option maxHeartbeats 0
namespace Lk80
open PySem L2 DL
def top (i : Nat) : Stmt := PySem.Challenge.pw_shelfwork_k80_written.main.body.getD i (.Pass ⟨0, 0, 0, 0⟩)
inductive Fid where
  | f_is_number
  | f_is_word
  | f_is_shelf
  | m_Reader_init
  | m_Reader_is_deed
  | m_Reader_is_call
  | f_is_leaf
  | f_is_deed
  | f_words_for
  | f_written
  | m_Words_init
  | m_Words_next_word
  | m_Words_thing
  | m_Words_row
  | f_read
  | f__law_cell
  | f__law_drawn
  | f__law_leaf
  | f__law_deed
  | f__law_call
  | f__law_rules
  | f__law_words
  | f__law_weight
  | f__law_light
  | f_law
def np : Fid → Nat
  | .f_is_number => 1
  | .f_is_word => 2
  | .f_is_shelf => 2
  | .m_Reader_init => 3
  | .m_Reader_is_deed => 3
  | .m_Reader_is_call => 3
  | .f_is_leaf => 2
  | .f_is_deed => 2
  | .f_words_for => 1
  | .f_written => 1
  | .m_Words_init => 2
  | .m_Words_next_word => 1
  | .m_Words_thing => 3
  | .m_Words_row => 3
  | .f_read => 2
  | .f__law_cell => 2
  | .f__law_drawn => 3
  | .f__law_leaf => 3
  | .f__law_deed => 5
  | .f__law_call => 5
  | .f__law_rules => 2
  | .f__law_words => 2
  | .f__law_weight => 3
  | .f__law_light => 4
  | .f_law => 1
def sem (n : Nat) : Fid → Fn
  | .f_is_number => csem n .f_is_number
  | .f_is_word => csem n .f_is_word
  | .f_is_shelf => csem n .f_is_shelf
  | .m_Reader_init => csem n .m_Reader_init
  | .m_Reader_is_deed => csem n .m_Reader_is_deed
  | .m_Reader_is_call => csem n .m_Reader_is_call
  | .f_is_leaf => csem n .f_is_leaf
  | .f_is_deed => csem n .f_is_deed
  | .f_words_for => csem n .f_words_for
  | .f_written => csem n .f_written
  | .m_Words_init => csem n .m_Words_init
  | .m_Words_next_word => csem n .m_Words_next_word
  | .m_Words_thing => csem n .m_Words_thing
  | .m_Words_row => csem n .m_Words_row
  | .f_read => csem n .f_read
  | .f__law_cell => csem n .f__law_cell
  | .f__law_drawn => csem n .f__law_drawn
  | .f__law_leaf => csem n .f__law_leaf
  | .f__law_deed => csem n .f__law_deed
  | .f__law_call => csem n .f__law_call
  | .f__law_rules => csem n .f__law_rules
  | .f__law_words => lsem n .f__law_words
  | .f__law_weight => csem n .f__law_weight
  | .f__law_light => csem n .f__law_light
  | .f_law => lsem n .f_law
inductive Cid where
  | Reader
  | Words
inductive Eid where
  | NoText
abbrev stm : Fid → Stmt
  | .f_is_number => top 5
  | .f_is_word => top 6
  | .f_is_shelf => top 7
  | .m_Reader_init => inClass (top 8) 0
  | .m_Reader_is_deed => inClass (top 8) 1
  | .m_Reader_is_call => inClass (top 8) 2
  | .f_is_leaf => top 9
  | .f_is_deed => top 10
  | .f_words_for => top 15
  | .f_written => top 16
  | .m_Words_init => inClass (top 17) 0
  | .m_Words_next_word => inClass (top 17) 1
  | .m_Words_thing => inClass (top 17) 2
  | .m_Words_row => inClass (top 17) 3
  | .f_read => top 18
  | .f__law_cell => top 20
  | .f__law_drawn => top 21
  | .f__law_leaf => top 22
  | .f__law_deed => top 23
  | .f__law_call => top 24
  | .f__law_rules => top 25
  | .f__law_words => top 28
  | .f__law_weight => top 29
  | .f__law_light => top 30
  | .f_law => top 31
abbrev nam : Fid → Str
  | .f_is_number => "is_number"
  | .f_is_word => "is_word"
  | .f_is_shelf => "is_shelf"
  | .m_Reader_init => "__init__"
  | .m_Reader_is_deed => "is_deed"
  | .m_Reader_is_call => "is_call"
  | .f_is_leaf => "is_leaf"
  | .f_is_deed => "is_deed"
  | .f_words_for => "words_for"
  | .f_written => "written"
  | .m_Words_init => "__init__"
  | .m_Words_next_word => "next_word"
  | .m_Words_thing => "thing"
  | .m_Words_row => "row"
  | .f_read => "read"
  | .f__law_cell => "_law_cell"
  | .f__law_drawn => "_law_drawn"
  | .f__law_leaf => "_law_leaf"
  | .f__law_deed => "_law_deed"
  | .f__law_call => "_law_call"
  | .f__law_rules => "_law_rules"
  | .f__law_words => "_law_words"
  | .f__law_weight => "_law_weight"
  | .f__law_light => "_law_light"
  | .f_law => "law"
abbrev qua : Fid → Str
  | .f_is_number => "is_number"
  | .f_is_word => "is_word"
  | .f_is_shelf => "is_shelf"
  | .m_Reader_init => "Reader.__init__"
  | .m_Reader_is_deed => "Reader.is_deed"
  | .m_Reader_is_call => "Reader.is_call"
  | .f_is_leaf => "is_leaf"
  | .f_is_deed => "is_deed"
  | .f_words_for => "words_for"
  | .f_written => "written"
  | .m_Words_init => "Words.__init__"
  | .m_Words_next_word => "Words.next_word"
  | .m_Words_thing => "Words.thing"
  | .m_Words_row => "Words.row"
  | .f_read => "read"
  | .f__law_cell => "_law_cell"
  | .f__law_drawn => "_law_drawn"
  | .f__law_leaf => "_law_leaf"
  | .f__law_deed => "_law_deed"
  | .f__law_call => "_law_call"
  | .f__law_rules => "_law_rules"
  | .f__law_words => "_law_words"
  | .f__law_weight => "_law_weight"
  | .f__law_light => "_law_light"
  | .f_law => "law"
abbrev pas : Fid → List Str
  | .f_is_number => ["thing"]
  | .f_is_word => ["thing", "letters"]
  | .f_is_shelf => ["thing", "known"]
  | .m_Reader_init => ["self", "rules", "below"]
  | .m_Reader_is_deed => ["self", "thing", "known"]
  | .m_Reader_is_call => ["self", "thing", "known"]
  | .f_is_leaf => ["thing", "known"]
  | .f_is_deed => ["rules", "thing"]
  | .f_words_for => ["deed"]
  | .f_written => ["deed"]
  | .m_Words_init => ["self", "words"]
  | .m_Words_next_word => ["self"]
  | .m_Words_thing => ["self", "word", "deep"]
  | .m_Words_row => ["self", "end", "deep"]
  | .f_read => ["rules", "text"]
  | .f__law_cell => ["_law_script", "_law_k"]
  | .f__law_drawn => ["_law_script", "_law_k", "_law_many"]
  | .f__law_leaf => ["_law_script", "_law_at", "_law_known"]
  | .f__law_deed => ["_law_script", "_law_at", "_law_deep", "_law_known", "_law_rules_here"]
  | .f__law_call => ["_law_script", "_law_at", "_law_deep", "_law_known", "_law_rules_here"]
  | .f__law_rules => ["_law_script", "_law_at"]
  | .f__law_words => ["_law_thing", "_law_is_deed_here"]
  | .f__law_weight => ["_law_rules_here", "_law_deed_here", "_law_handed"]
  | .f__law_light => ["_law_script", "_law_at", "_law_deep", "_law_rules_here"]
  | .f_law => ["_law_script"]
def cAl (ca : Cid → Addr) : List (Str × Addr) := [("Reader", ca .Reader), ("Words", ca .Words)]
def cA (ca : Cid → Addr) (c : Str) : Option Addr := (cAl ca).lookup c
def xA (ea : Eid → Addr) (c : Str) : Option Addr := ([("NoText", ea .NoText)] : List (Str × Addr)).lookup c
theorem xA_NoText (ea : Eid → Addr) : xA ea "NoText" = some (ea .NoText) := by rfl
theorem cA_Reader (ca : Cid → Addr) : cA ca "Reader" = some (ca .Reader) := by rfl
theorem cA_Words (ca : Cid → Addr) : cA ca "Words" = some (ca .Words) := by rfl
theorem lk_mem {α : Type} [BEq α] {β : Type} {x : α} {y : β} : ∀ {l : List (α × β)}, l.lookup x = some y → ∃ z, (z, y) ∈ l
  | [], h => by cases h
  | (a, b) :: r, h => by
    unfold List.lookup at h
    split at h
    · cases h
      exact ⟨a, List.mem_cons_self⟩
    · obtain ⟨z, hz⟩ := lk_mem h
      exact ⟨z, List.mem_cons_of_mem _ hz⟩
theorem cA_ca {ca : Cid → Addr} : ∀ c C, cA ca c = some C → ∃ i, C = ca i := fun c C e => by
  obtain ⟨z, hz⟩ := lk_mem (show (cAl ca).lookup c = some C from e)
  unfold cAl at hz
  simp only [List.mem_cons, Prod.mk.injEq, List.not_mem_nil, or_false] at hz
  rcases hz with ⟨_, h⟩ | ⟨_, h⟩
  · exact ⟨.Reader, h⟩
  · exact ⟨.Words, h⟩
structure Tx (K : PySem.W.Frag) (mg : Str → Option Value) (fa : Fid → Addr) (fdt : Fid → FuncData) (ca : Cid → Addr) (ea : Eid → Addr) : Prop where
  fn : ∀ i, Fun K (nam i) (qua i) (stm i) (fa i) (fdt i)
  bd : ∀ i, Binds K (fdt i) (pas i) []
  cl : ∀ i, Cls K (ca i)
  xc : ∀ i, DL.ExcC K (ea i)
  mg_NoText : mg "NoText" = some (.ref (ea .NoText))
  mg_f_is_number : mg "is_number" = some (.ref (fa .f_is_number))
  kp_f_is_number : PySem.W.keepIn K (.ref (fa .f_is_number)) = true
  mg_f_is_word : mg "is_word" = some (.ref (fa .f_is_word))
  kp_f_is_word : PySem.W.keepIn K (.ref (fa .f_is_word)) = true
  mg_f_is_shelf : mg "is_shelf" = some (.ref (fa .f_is_shelf))
  kp_f_is_shelf : PySem.W.keepIn K (.ref (fa .f_is_shelf)) = true
  me_m_Reader_is_deed : Meth K (ca .Reader) "is_deed" (fa .m_Reader_is_deed)
  me_m_Reader_is_call : Meth K (ca .Reader) "is_call" (fa .m_Reader_is_call)
  mg_f_is_leaf : mg "is_leaf" = some (.ref (fa .f_is_leaf))
  kp_f_is_leaf : PySem.W.keepIn K (.ref (fa .f_is_leaf)) = true
  mg_f_is_deed : mg "is_deed" = some (.ref (fa .f_is_deed))
  kp_f_is_deed : PySem.W.keepIn K (.ref (fa .f_is_deed)) = true
  mg_f_words_for : mg "words_for" = some (.ref (fa .f_words_for))
  kp_f_words_for : PySem.W.keepIn K (.ref (fa .f_words_for)) = true
  mg_f_written : mg "written" = some (.ref (fa .f_written))
  kp_f_written : PySem.W.keepIn K (.ref (fa .f_written)) = true
  me_m_Words_next_word : Meth K (ca .Words) "next_word" (fa .m_Words_next_word)
  me_m_Words_thing : Meth K (ca .Words) "thing" (fa .m_Words_thing)
  me_m_Words_row : Meth K (ca .Words) "row" (fa .m_Words_row)
  mg_f_read : mg "read" = some (.ref (fa .f_read))
  kp_f_read : PySem.W.keepIn K (.ref (fa .f_read)) = true
  mg_f__law_cell : mg "_law_cell" = some (.ref (fa .f__law_cell))
  kp_f__law_cell : PySem.W.keepIn K (.ref (fa .f__law_cell)) = true
  mg_f__law_drawn : mg "_law_drawn" = some (.ref (fa .f__law_drawn))
  kp_f__law_drawn : PySem.W.keepIn K (.ref (fa .f__law_drawn)) = true
  mg_f__law_leaf : mg "_law_leaf" = some (.ref (fa .f__law_leaf))
  kp_f__law_leaf : PySem.W.keepIn K (.ref (fa .f__law_leaf)) = true
  mg_f__law_deed : mg "_law_deed" = some (.ref (fa .f__law_deed))
  kp_f__law_deed : PySem.W.keepIn K (.ref (fa .f__law_deed)) = true
  mg_f__law_call : mg "_law_call" = some (.ref (fa .f__law_call))
  kp_f__law_call : PySem.W.keepIn K (.ref (fa .f__law_call)) = true
  mg_f__law_rules : mg "_law_rules" = some (.ref (fa .f__law_rules))
  kp_f__law_rules : PySem.W.keepIn K (.ref (fa .f__law_rules)) = true
  mg_f__law_words : mg "_law_words" = some (.ref (fa .f__law_words))
  kp_f__law_words : PySem.W.keepIn K (.ref (fa .f__law_words)) = true
  mg_f__law_weight : mg "_law_weight" = some (.ref (fa .f__law_weight))
  kp_f__law_weight : PySem.W.keepIn K (.ref (fa .f__law_weight)) = true
  mg_f__law_light : mg "_law_light" = some (.ref (fa .f__law_light))
  kp_f__law_light : PySem.W.keepIn K (.ref (fa .f__law_light)) = true
  mg_f_law : mg "law" = some (.ref (fa .f_law))
  kp_f_law : PySem.W.keepIn K (.ref (fa .f_law)) = true
  mg_Reader : mg "Reader" = some (.ref (ca .Reader))
  mk_Reader : Mk K (ca .Reader) (fa .m_Reader_init)
  mg_Words : mg "Words" = some (.ref (ca .Words))
  mk_Words : Mk K (ca .Words) (fa .m_Words_init)
  na_rules : ∀ i, NoAttr K (ca i) "rules"
  na_below : ∀ i, NoAttr K (ca i) "below"
  na_left : ∀ i, NoAttr K (ca i) "left"
  z_all : mg "all" = none
  z_bool : mg "bool" = none
  z_dict : mg "dict" = none
  z_int : mg "int" = none
  z_isinstance : mg "isinstance" = none
  z_len : mg "len" = none
  z_range : mg "range" = none
  z_str : mg "str" = none
  z_sum : mg "sum" = none
  z_tuple : mg "tuple" = none
  z_zip : mg "zip" = none
  g_FIGURES : ∃ t, mg "FIGURES" = some (.str "0123456789" t)
  g_MOST_PARTS : ∃ t, mg "MOST_PARTS" = some (.int 60 t)
  g_SHELVES : ∃ t, mg "SHELVES" = some (.str "abcd" t)
  g_SIZE : ∃ t, mg "SIZE" = some (.int 1009 t)
section
variable {P : Program} {w : World} {K : PySem.W.Frag} {mg : Str → Option Value} {base : Heap} {fa : Fid → Addr} {fdt : Fid → FuncData} {ca : Cid → Addr} {ea : Eid → Addr}
theorem Tx.fld_rules {X : Cx} (T : Tx X.K mg fa fdt ca ea) : FldOk X ⟨cA ca, xA ea⟩ "rules" := fun c C e => by
  obtain ⟨i, rfl⟩ := cA_ca c C e
  exact ⟨T.cl i, T.na_rules i⟩
theorem Tx.fld_below {X : Cx} (T : Tx X.K mg fa fdt ca ea) : FldOk X ⟨cA ca, xA ea⟩ "below" := fun c C e => by
  obtain ⟨i, rfl⟩ := cA_ca c C e
  exact ⟨T.cl i, T.na_below i⟩
theorem Tx.fld_left {X : Cx} (T : Tx X.K mg fa fdt ca ea) : FldOk X ⟨cA ca, xA ea⟩ "left" := fun c C e => by
  obtain ⟨i, rfl⟩ := cA_ca c C e
  exact ⟨T.cl i, T.na_left i⟩
abbrev Ok (P : Program) (w : World) (K : PySem.W.Frag) (mg : Str → Option Value) (base : Heap) (fa : Fid → Addr) (fdt : Fid → FuncData) (ca : Cid → Addr) (ea : Eid → Addr) (n : Nat) (i : Fid) : Prop := FnOk P w K mg base (L2N.CX P w) n (fa i) (fdt i) (pas i) (spD ⟨K, cA ca, xA ea⟩ (np i) (sem n i))
theorem sc_f_is_number : FnScope ["thing"] (pas .f_is_number) (defScope (stm .f_is_number)) := ⟨rfl, rfl, rfl, by decide +kernel, rfl, by decide +kernel, by decide +kernel⟩
theorem ok_f_is_number {n : Nat} (T : Tx K mg fa fdt ca ea) (ih : ∀ i, Ok P w K mg base fa fdt ca ea (n + 1) i) (ih2 : ∀ i, Ok P w K mg base fa fdt ca ea n i) : Ok P w K mg base fa fdt ca ea (n + 2) .f_is_number := by
  show FnOk P w K mg base (L2N.CX P w) (n + 1 + 1) (fa .f_is_number) (fdt .f_is_number) (pas .f_is_number) (spD ⟨K, cA ca, xA ea⟩ 1 (runFn 1 1 (b_f_is_number (csem (n + 1)) (csem n))))
  refine fn_ok (T := ⟨cA ca, xA ea⟩) (np := 1) (N := ["thing"]) (b := b_f_is_number (csem (n + 1)) (csem n)) (T.fn .f_is_number) sc_f_is_number rfl (fun cdv A outer s H E hr => ?_)
  unfold b_f_is_number
  exact (pssd_one (psd_ret (pd_and (pd_isi (by rfl) T.z_isinstance (by rfl) T.z_int (by rfl) (by rfl) (pd_var 0)) (pd_and (pd_not (pd_isi (by rfl) T.z_isinstance (by rfl) T.z_bool (by rfl) (by rfl) (pd_var 0))) (pd_one (pd_chain od_le od_lt pd_int (pd_var 0) (pd_gint (by rfl) T.g_SIZE.choose_spec)))))))
theorem sc_f_is_word : FnScope ["thing", "letters", "sign"] (pas .f_is_word) (defScope (stm .f_is_word)) := ⟨rfl, rfl, rfl, by decide +kernel, rfl, by decide +kernel, by decide +kernel⟩
theorem ok_f_is_word {n : Nat} (T : Tx K mg fa fdt ca ea) (ih : ∀ i, Ok P w K mg base fa fdt ca ea (n + 1) i) (ih2 : ∀ i, Ok P w K mg base fa fdt ca ea n i) : Ok P w K mg base fa fdt ca ea (n + 2) .f_is_word := by
  show FnOk P w K mg base (L2N.CX P w) (n + 1 + 1) (fa .f_is_word) (fdt .f_is_word) (pas .f_is_word) (spD ⟨K, cA ca, xA ea⟩ 2 (runFn 2 3 (b_f_is_word (csem (n + 1)) (csem n))))
  refine fn_ok (T := ⟨cA ca, xA ea⟩) (np := 2) (N := ["thing", "letters", "sign"]) (b := b_f_is_word (csem (n + 1)) (csem n)) (T.fn .f_is_word) sc_f_is_word rfl (fun cdv A outer s H E hr => ?_)
  unfold b_f_is_word
  exact (pssd_cons (psd_if (PW.pt (pwd_or (ptd_not (ptd_val (pd_isi (by rfl) T.z_isinstance (by rfl) T.z_str (by rfl) (by rfl) (pd_var 0)))) (pwd_or (ptd_not (ptd_chain od_le od_le pd_int (pd_callB cd_len (by rfl) T.z_len (by rfl) (pda_cons (pd_var 0) pda_nil)) pd_int)) (pwd_or1 (ptd_cmp (od_notIn hr.u65) (pd_sub (hu_of hr) (pd_var 0) pd_int) (pd_var 1) (by rfl)))))) (pssd_one (psd_ret pd_bl)) pssd_nil)
    (pssd_one (psd_ret (pd_callB (cd_all rfl) (by rfl) T.z_all (by rfl) (pda_cons (pd_lc (own := [("sign", 2)]) rfl (by exact sc_f_is_word.nd) (by exact (pid_any (pd_sl (pd_var 0) (pod_some pd_int) pod_none))) (by exact (blkOk_by (own := [("sign", 2)]) (N := ["thing", "letters", "sign"]) (sc := defScope (stm .f_is_word)) (by decide +kernel))) (fun _ _ _ _ _ => by exact (pgd_name 2 sc_f_is_word.nd)) (fun _ _ _ _ _ => by exact ptsd_nil) (fun _ _ _ _ _ => by exact (pd_cmp (od_in hr.u65) (pd_var 2) (pd_gstr (by rfl) T.g_FIGURES.choose_spec) (by rfl)))) pda_nil)))))
theorem sc_f_is_shelf : FnScope ["thing", "known"] (pas .f_is_shelf) (defScope (stm .f_is_shelf)) := ⟨rfl, rfl, rfl, by decide +kernel, rfl, by decide +kernel, by decide +kernel⟩
theorem ok_f_is_shelf {n : Nat} (T : Tx K mg fa fdt ca ea) (ih : ∀ i, Ok P w K mg base fa fdt ca ea (n + 1) i) (ih2 : ∀ i, Ok P w K mg base fa fdt ca ea n i) : Ok P w K mg base fa fdt ca ea (n + 2) .f_is_shelf := by
  show FnOk P w K mg base (L2N.CX P w) (n + 1 + 1) (fa .f_is_shelf) (fdt .f_is_shelf) (pas .f_is_shelf) (spD ⟨K, cA ca, xA ea⟩ 2 (runFn 2 2 (b_f_is_shelf (csem (n + 1)) (csem n))))
  refine fn_ok (T := ⟨cA ca, xA ea⟩) (np := 2) (N := ["thing", "known"]) (b := b_f_is_shelf (csem (n + 1)) (csem n)) (T.fn .f_is_shelf) sc_f_is_shelf rfl (fun cdv A outer s H E hr => ?_)
  unfold b_f_is_shelf
  exact (pssd_cons (psd_if (ptd_val (pd_call (ih .f_is_word) (hr.mono (Nat.le_refl _)) (by rfl) T.mg_f_is_word T.kp_f_is_word (T.bd .f_is_word) (L2N.takes_of rfl rfl rfl rfl) (pda_cons (pd_var 0) (pda_cons pd_str pda_nil)))) (pssd_one (psd_ret (pd_cmp (od_in hr.u65) (pd_var 0) (pd_var 1) (by rfl)))) pssd_nil)
    (pssd_one (psd_ret (pd_and (pd_isi (by rfl) T.z_isinstance (by rfl) T.z_str (by rfl) (by rfl) (pd_var 0)) (pd_and (pd_cmp (od_eq hr.units) (pd_callB cd_len (by rfl) T.z_len (by rfl) (pda_cons (pd_var 0) pda_nil)) pd_int (nomark _)) (pd_one (pd_cmp (od_in hr.u65) (pd_var 0) (pd_gstr (by rfl) T.g_SHELVES.choose_spec) (by rfl))))))))
theorem sc_m_Reader_init : FnScope ["self", "rules", "below"] (pas .m_Reader_init) (defScope (stm .m_Reader_init)) := ⟨rfl, rfl, rfl, by decide +kernel, rfl, by decide +kernel, by decide +kernel⟩
theorem ok_m_Reader_init {n : Nat} (T : Tx K mg fa fdt ca ea) (ih : ∀ i, Ok P w K mg base fa fdt ca ea (n + 1) i) (ih2 : ∀ i, Ok P w K mg base fa fdt ca ea n i) : Ok P w K mg base fa fdt ca ea (n + 2) .m_Reader_init := by
  show FnOk P w K mg base (L2N.CX P w) (n + 1 + 1) (fa .m_Reader_init) (fdt .m_Reader_init) (pas .m_Reader_init) (spD ⟨K, cA ca, xA ea⟩ 3 (runFn 3 3 (b_m_Reader_init (csem (n + 1)) (csem n))))
  refine fn_ok (T := ⟨cA ca, xA ea⟩) (np := 3) (N := ["self", "rules", "below"]) (b := b_m_Reader_init (csem (n + 1)) (csem n)) (T.fn .m_Reader_init) sc_m_Reader_init rfl (fun cdv A outer s H E hr => ?_)
  unfold b_m_Reader_init
  exact (pssd_cons (psd_fld (T.fld_rules) (pd_var 0) (pd_var 1))
    (pssd_cons (psd_fld (T.fld_below) (pd_var 0) (pd_var 2))
    (pssd_one (psd_fld (T.fld_left) (pd_var 0) (pd_gint (by rfl) T.g_MOST_PARTS.choose_spec)))))
theorem sc_m_Reader_is_deed : FnScope ["self", "thing", "known", "word", "sizes", "part"] (pas .m_Reader_is_deed) (defScope (stm .m_Reader_is_deed)) := ⟨rfl, rfl, rfl, by decide +kernel, rfl, by decide +kernel, by decide +kernel⟩
theorem ok_m_Reader_is_deed {n : Nat} (T : Tx K mg fa fdt ca ea) (ih : ∀ i, Ok P w K mg base fa fdt ca ea (n + 1) i) (ih2 : ∀ i, Ok P w K mg base fa fdt ca ea n i) : Ok P w K mg base fa fdt ca ea (n + 2) .m_Reader_is_deed := by
  show FnOk P w K mg base (L2N.CX P w) (n + 1 + 1) (fa .m_Reader_is_deed) (fdt .m_Reader_is_deed) (pas .m_Reader_is_deed) (spD ⟨K, cA ca, xA ea⟩ 3 (runFn 3 6 (b_m_Reader_is_deed (csem (n + 1)) (csem n))))
  refine fn_ok (T := ⟨cA ca, xA ea⟩) (np := 3) (N := ["self", "thing", "known", "word", "sizes", "part"]) (b := b_m_Reader_is_deed (csem (n + 1)) (csem n)) (T.fn .m_Reader_is_deed) sc_m_Reader_is_deed rfl (fun cdv A outer s H E hr => ?_)
  unfold b_m_Reader_is_deed
  exact (pssd_cons (psd_fld (T.fld_left) (pd_var 0) (pd_bin od_sub (pd_fld (T.fld_left) (pd_var 0)) pd_int))
    (pssd_cons (psd_if (PW.pt (pwd_or (ptd_cmp od_lt (pd_fld (T.fld_left) (pd_var 0)) pd_int (nomark _)) (pwd_or (ptd_not (ptd_val (pd_isi (by rfl) T.z_isinstance (by rfl) T.z_tuple (by rfl) (by rfl) (pd_var 1)))) (pwd_or (ptd_cmp (od_eq hr.units) (pd_callB cd_len (by rfl) T.z_len (by rfl) (pda_cons (pd_var 1) pda_nil)) pd_int (nomark _)) (pwd_or1 (ptd_not (ptd_val (pd_isi (by rfl) T.z_isinstance (by rfl) T.z_str (by rfl) (by rfl) (pd_sub (hu_of hr) (pd_var 1) pd_int))))))))) (pssd_one (psd_ret pd_bl)) pssd_nil)
    (pssd_cons (psd_asg (pd_sub (hu_of hr) (pd_var 1) pd_int) (pgd_name 3 sc_m_Reader_is_deed.nd))
    (pssd_cons (psd_if (ptd_cmp (od_in hr.u65) (pd_var 3) (pd_tup (pda_cons pd_str (pda_cons pd_str (pda_cons pd_str (pda_cons pd_str (pda_cons pd_str pda_nil)))))) (by rfl)) (pssd_one (psd_ret (pd_call (ih .f_is_leaf) (hr.mono (Nat.le_refl _)) (by rfl) T.mg_f_is_leaf T.kp_f_is_leaf (T.bd .f_is_leaf) (L2N.takes_of rfl rfl rfl rfl) (pda_cons (pd_var 1) (pda_cons (pd_var 2) pda_nil))))) pssd_nil)
    (pssd_cons (psd_if (ptd_cmp (od_eq hr.units) (pd_var 3) pd_str (nomark _)) (pssd_one (psd_ret (pd_meth (c := "Reader") (pd_var 0) (cA_Reader ca) (T.cl .Reader) T.me_m_Reader_is_call (ih .m_Reader_is_call) (hr.mono (Nat.le_refl _)) (T.bd .m_Reader_is_call) (L2N.takes_of rfl rfl rfl rfl) (pda_cons (pd_var 1) (pda_cons (pd_var 2) pda_nil))))) pssd_nil)
    (pssd_cons (psd_if (ptd_cmp (od_eq hr.units) (pd_var 3) pd_str (nomark _)) (pssd_one (psd_ret (pd_and (pd_cmp (od_eq hr.units) (pd_callB cd_len (by rfl) T.z_len (by rfl) (pda_cons (pd_var 1) pda_nil)) pd_int (nomark _)) (pd_and (pd_call (ih .f_is_shelf) (hr.mono (Nat.le_refl _)) (by rfl) T.mg_f_is_shelf T.kp_f_is_shelf (T.bd .f_is_shelf) (L2N.takes_of rfl rfl rfl rfl) (pda_cons (pd_sub (hu_of hr) (pd_var 1) pd_int) (pda_cons (pd_var 2) pda_nil))) (pd_one (pd_meth (c := "Reader") (pd_var 0) (cA_Reader ca) (T.cl .Reader) T.me_m_Reader_is_deed (ih .m_Reader_is_deed) (hr.mono (Nat.le_refl _)) (T.bd .m_Reader_is_deed) (L2N.takes_of rfl rfl rfl rfl) (pda_cons (pd_sub (hu_of hr) (pd_var 1) pd_int) (pda_cons (pd_var 2) pda_nil)))))))) pssd_nil)
    (pssd_cons (psd_if (ptd_cmp (od_in hr.u65) (pd_var 3) (pd_tup (pda_cons pd_str (pda_cons pd_str pda_nil))) (by rfl)) (pssd_cons (psd_if (PW.pt (pwd_or (ptd_cmp (od_ne hr.units) (pd_callB cd_len (by rfl) T.z_len (by rfl) (pda_cons (pd_var 1) pda_nil)) pd_int (nomark _)) (pwd_or1 (ptd_not (ptd_val (pd_call (ih .f_is_word) (hr.mono (Nat.le_refl _)) (by rfl) T.mg_f_is_word T.kp_f_is_word (T.bd .f_is_word) (L2N.takes_of rfl rfl rfl rfl) (pda_cons (pd_sub (hu_of hr) (pd_var 1) pd_int) (pda_cons (pd_sub (hu_of hr) (pd_disp [((dC (.str "let")), (dC (.str "xyz"))), ((dC (.str "own")), (dC (.str "pq")))] (by exact (pps_cons pd_str pd_str (pps_cons pd_str pd_str pps_nil))) rfl rfl (by simp) (by simp)) (pd_var 3)) pda_nil)))))))) (pssd_one (psd_ret pd_bl)) pssd_nil)
    (pssd_one (psd_ret (pd_and (pd_meth (c := "Reader") (pd_var 0) (cA_Reader ca) (T.cl .Reader) T.me_m_Reader_is_deed (ih .m_Reader_is_deed) (hr.mono (Nat.le_refl _)) (T.bd .m_Reader_is_deed) (L2N.takes_of rfl rfl rfl rfl) (pda_cons (pd_sub (hu_of hr) (pd_var 1) pd_int) (pda_cons (pd_var 2) pda_nil))) (pd_one (pd_meth (c := "Reader") (pd_var 0) (cA_Reader ca) (T.cl .Reader) T.me_m_Reader_is_deed (ih .m_Reader_is_deed) (hr.mono (Nat.le_refl _)) (T.bd .m_Reader_is_deed) (L2N.takes_of rfl rfl rfl rfl) (pda_cons (pd_sub (hu_of hr) (pd_var 1) pd_int) (pda_cons (pd_bin od_add (pd_var 2) (pd_lst (pda_cons (pd_sub (hu_of hr) (pd_var 1) pd_int) pda_nil))) pda_nil)))))))) pssd_nil)
    (pssd_cons (psd_asg (pd_disp [((dC (.str "add")), (dC (.int 3))), ((dC (.str "less")), (dC (.int 3))), ((dC (.str "then")), (dC (.int 3))), ((dC (.str "loop")), (dC (.int 3))), ((dC (.str "if")), (dC (.int 4))), ((dC (.str "say")), (dC (.int 2)))] (by exact (pps_cons pd_str pd_int (pps_cons pd_str pd_int (pps_cons pd_str pd_int (pps_cons pd_str pd_int (pps_cons pd_str pd_int (pps_cons pd_str pd_int pps_nil))))))) rfl rfl (by simp) (by simp)) (pgd_name 4 sc_m_Reader_is_deed.nd))
    (pssd_cons (psd_if (ptd_cmp (od_ne hr.units) (pd_callB cd_len (by rfl) T.z_len (by rfl) (pda_cons (pd_var 1) pda_nil)) (pd_get2 (hu_of hr) (pd_var 4) (pd_var 3) pd_int) (nomark _)) (pssd_one (psd_ret pd_bl)) pssd_nil)
    (pssd_one (psd_ret (pd_callB (cd_all rfl) (by rfl) T.z_all (by rfl) (pda_cons (pd_lc (own := [("part", 5)]) rfl (by exact sc_m_Reader_is_deed.nd) (by exact (pid_any (pd_sl (pd_var 1) (pod_some pd_int) pod_none))) (by exact (blkOk_by (own := [("part", 5)]) (N := ["self", "thing", "known", "word", "sizes", "part"]) (sc := defScope (stm .m_Reader_is_deed)) (by decide +kernel))) (fun _ _ _ _ _ => by exact (pgd_name 5 sc_m_Reader_is_deed.nd)) (fun _ _ _ _ _ => by exact ptsd_nil) (fun _ _ _ _ _ => by exact (pd_meth (c := "Reader") (pd_var 0) (cA_Reader ca) (T.cl .Reader) T.me_m_Reader_is_deed (ih .m_Reader_is_deed) (hr.mono (Nat.le_refl _)) (T.bd .m_Reader_is_deed) takes0N (pda_cons (pd_var 5) (pda_cons (pd_var 2) pda_nil))))) pda_nil)))))))))))))
theorem sc_m_Reader_is_call : FnScope ["self", "thing", "known", "names", "handed", "body", "part"] (pas .m_Reader_is_call) (defScope (stm .m_Reader_is_call)) := ⟨rfl, rfl, rfl, by decide +kernel, rfl, by decide +kernel, by decide +kernel⟩
theorem ok_m_Reader_is_call {n : Nat} (T : Tx K mg fa fdt ca ea) (ih : ∀ i, Ok P w K mg base fa fdt ca ea (n + 1) i) (ih2 : ∀ i, Ok P w K mg base fa fdt ca ea n i) : Ok P w K mg base fa fdt ca ea (n + 2) .m_Reader_is_call := by
  show FnOk P w K mg base (L2N.CX P w) (n + 1 + 1) (fa .m_Reader_is_call) (fdt .m_Reader_is_call) (pas .m_Reader_is_call) (spD ⟨K, cA ca, xA ea⟩ 3 (runFn 3 7 (b_m_Reader_is_call (csem (n + 1)) (csem n))))
  refine fn_ok (T := ⟨cA ca, xA ea⟩) (np := 3) (N := ["self", "thing", "known", "names", "handed", "body", "part"]) (b := b_m_Reader_is_call (csem (n + 1)) (csem n)) (T.fn .m_Reader_is_call) sc_m_Reader_is_call rfl (fun cdv A outer s H E hr => ?_)
  unfold b_m_Reader_is_call
  exact (pssd_cons (psd_if (PW.pt (pwd_or (ptd_cmp (od_ne hr.units) (pd_callB cd_len (by rfl) T.z_len (by rfl) (pda_cons (pd_var 1) pda_nil)) pd_int (nomark _)) (pwd_or (ptd_not (ptd_val (pd_call (ih .f_is_number) (hr.mono (Nat.le_refl _)) (by rfl) T.mg_f_is_number T.kp_f_is_number (T.bd .f_is_number) (L2N.takes_of rfl rfl rfl rfl) (pda_cons (pd_sub (hu_of hr) (pd_var 1) pd_int) pda_nil)))) (pwd_or1 (ptd_cmp od_ge (pd_sub (hu_of hr) (pd_var 1) pd_int) (pd_fld (T.fld_below) (pd_var 0)) (nomark _)))))) (pssd_one (psd_ret pd_bl)) pssd_nil)
    (pssd_cons (psd_asg (pd_sub (hu_of hr) (pd_fld (T.fld_rules) (pd_var 0)) (pd_sub (hu_of hr) (pd_var 1) pd_int)) (pgd_tup (n := 3) rfl (pgd_cons (pgd_name 3 sc_m_Reader_is_call.nd) (pgd_cons (pgd_name 4 sc_m_Reader_is_call.nd) (pgd_cons (pgd_name 5 sc_m_Reader_is_call.nd) pgd_nil)))))
    (pssd_cons (psd_if (PW.pt (pwd_or (ptd_not (ptd_val (pd_isi (by rfl) T.z_isinstance (by rfl) T.z_tuple (by rfl) (by rfl) (pd_sub (hu_of hr) (pd_var 1) pd_int)))) (pwd_or1 (ptd_not (ptd_val (pd_isi (by rfl) T.z_isinstance (by rfl) T.z_tuple (by rfl) (by rfl) (pd_sub (hu_of hr) (pd_var 1) pd_int))))))) (pssd_one (psd_ret pd_bl)) pssd_nil)
    (pssd_cons (psd_if (PW.pt (pwd_or (ptd_cmp (od_ne hr.units) (pd_callB cd_len (by rfl) T.z_len (by rfl) (pda_cons (pd_sub (hu_of hr) (pd_var 1) pd_int) pda_nil)) (pd_callB cd_len (by rfl) T.z_len (by rfl) (pda_cons (pd_var 3) pda_nil)) (nomark _)) (pwd_or1 (ptd_cmp (od_ne hr.units) (pd_callB cd_len (by rfl) T.z_len (by rfl) (pda_cons (pd_sub (hu_of hr) (pd_var 1) pd_int) pda_nil)) (pd_callB cd_len (by rfl) T.z_len (by rfl) (pda_cons (pd_var 4) pda_nil)) (nomark _))))) (pssd_one (psd_ret pd_bl)) pssd_nil)
    (pssd_one (psd_ret (pd_callB (cd_all rfl) (by rfl) T.z_all (by rfl) (pda_cons (pd_lc (own := [("part", 6)]) rfl (by exact sc_m_Reader_is_call.nd) (by exact (pid_any (pd_bin od_add (pd_sub (hu_of hr) (pd_var 1) pd_int) (pd_sub (hu_of hr) (pd_var 1) pd_int)))) (by exact (blkOk_by (own := [("part", 6)]) (N := ["self", "thing", "known", "names", "handed", "body", "part"]) (sc := defScope (stm .m_Reader_is_call)) (by decide +kernel))) (fun _ _ _ _ _ => by exact (pgd_name 6 sc_m_Reader_is_call.nd)) (fun _ _ _ _ _ => by exact ptsd_nil) (fun _ _ _ _ _ => by exact (pd_meth (c := "Reader") (pd_var 0) (cA_Reader ca) (T.cl .Reader) T.me_m_Reader_is_deed (ih .m_Reader_is_deed) (hr.mono (Nat.le_refl _)) (T.bd .m_Reader_is_deed) takes0N (pda_cons (pd_var 6) (pda_cons (pd_var 2) pda_nil))))) pda_nil))))))))
theorem sc_f_is_leaf : FnScope ["thing", "known"] (pas .f_is_leaf) (defScope (stm .f_is_leaf)) := ⟨rfl, rfl, rfl, by decide +kernel, rfl, by decide +kernel, by decide +kernel⟩
theorem ok_f_is_leaf {n : Nat} (T : Tx K mg fa fdt ca ea) (ih : ∀ i, Ok P w K mg base fa fdt ca ea (n + 1) i) (ih2 : ∀ i, Ok P w K mg base fa fdt ca ea n i) : Ok P w K mg base fa fdt ca ea (n + 2) .f_is_leaf := by
  show FnOk P w K mg base (L2N.CX P w) (n + 1 + 1) (fa .f_is_leaf) (fdt .f_is_leaf) (pas .f_is_leaf) (spD ⟨K, cA ca, xA ea⟩ 2 (runFn 2 2 (b_f_is_leaf (csem (n + 1)) (csem n))))
  refine fn_ok (T := ⟨cA ca, xA ea⟩) (np := 2) (N := ["thing", "known"]) (b := b_f_is_leaf (csem (n + 1)) (csem n)) (T.fn .f_is_leaf) sc_f_is_leaf rfl (fun cdv A outer s H E hr => ?_)
  unfold b_f_is_leaf
  exact (pssd_cons (psd_if (ptd_cmp (od_eq hr.units) (pd_sub (hu_of hr) (pd_var 0) pd_int) pd_str (nomark _)) (pssd_one (psd_ret (pd_cmp (od_eq hr.units) (pd_callB cd_len (by rfl) T.z_len (by rfl) (pda_cons (pd_var 0) pda_nil)) pd_int (nomark _)))) pssd_nil)
    (pssd_cons (psd_if (ptd_cmp (od_ne hr.units) (pd_callB cd_len (by rfl) T.z_len (by rfl) (pda_cons (pd_var 0) pda_nil)) pd_int (nomark _)) (pssd_one (psd_ret pd_bl)) pssd_nil)
    (pssd_cons (psd_if (ptd_cmp (od_eq hr.units) (pd_sub (hu_of hr) (pd_var 0) pd_int) pd_str (nomark _)) (pssd_one (psd_ret (pd_call (ih .f_is_number) (hr.mono (Nat.le_refl _)) (by rfl) T.mg_f_is_number T.kp_f_is_number (T.bd .f_is_number) (L2N.takes_of rfl rfl rfl rfl) (pda_cons (pd_sub (hu_of hr) (pd_var 0) pd_int) pda_nil)))) pssd_nil)
    (pssd_cons (psd_if (ptd_cmp (od_eq hr.units) (pd_sub (hu_of hr) (pd_var 0) pd_int) pd_str (nomark _)) (pssd_one (psd_ret (pd_call (ih .f_is_shelf) (hr.mono (Nat.le_refl _)) (by rfl) T.mg_f_is_shelf T.kp_f_is_shelf (T.bd .f_is_shelf) (L2N.takes_of rfl rfl rfl rfl) (pda_cons (pd_sub (hu_of hr) (pd_var 0) pd_int) (pda_cons (pd_var 1) pda_nil))))) pssd_nil)
    (pssd_one (psd_ret (pd_and (pd_call (ih .f_is_word) (hr.mono (Nat.le_refl _)) (by rfl) T.mg_f_is_word T.kp_f_is_word (T.bd .f_is_word) (L2N.takes_of rfl rfl rfl rfl) (pda_cons (pd_sub (hu_of hr) (pd_var 0) pd_int) (pda_cons (pd_sub (hu_of hr) (pd_disp [((dC (.str "name")), (dC (.str "xyz"))), ((dC (.str "do")), (dC (.str "fg")))] (by exact (pps_cons pd_str pd_str (pps_cons pd_str pd_str pps_nil))) rfl rfl (by simp) (by simp)) (pd_sub (hu_of hr) (pd_var 0) pd_int)) pda_nil))) (pd_one (pd_cmp (od_in hr.u65) (pd_sub (hu_of hr) (pd_var 0) pd_int) (pd_var 1) (by rfl))))))))))
theorem sc_f_is_deed : FnScope ["rules", "thing"] (pas .f_is_deed) (defScope (stm .f_is_deed)) := ⟨rfl, rfl, rfl, by decide +kernel, rfl, by decide +kernel, by decide +kernel⟩
theorem ok_f_is_deed {n : Nat} (T : Tx K mg fa fdt ca ea) (ih : ∀ i, Ok P w K mg base fa fdt ca ea (n + 1) i) (ih2 : ∀ i, Ok P w K mg base fa fdt ca ea n i) : Ok P w K mg base fa fdt ca ea (n + 2) .f_is_deed := by
  show FnOk P w K mg base (L2N.CX P w) (n + 1 + 1) (fa .f_is_deed) (fdt .f_is_deed) (pas .f_is_deed) (spD ⟨K, cA ca, xA ea⟩ 2 (runFn 2 2 (b_f_is_deed (csem (n + 1)) (csem n))))
  refine fn_ok (T := ⟨cA ca, xA ea⟩) (np := 2) (N := ["rules", "thing"]) (b := b_f_is_deed (csem (n + 1)) (csem n)) (T.fn .f_is_deed) sc_f_is_deed rfl (fun cdv A outer s H E hr => ?_)
  unfold b_f_is_deed
  exact (pssd_one (psd_ret (pd_meth (c := "Reader") (pd_make (c := "Reader") (cA_Reader ca) T.mk_Reader (ih2 .m_Reader_init) hr (by rfl) T.mg_Reader (T.bd .m_Reader_init) (L2N.takes_of rfl rfl rfl rfl) (pda_cons (pd_var 0) (pda_cons (pd_callB cd_len (by rfl) T.z_len (by rfl) (pda_cons (pd_var 0) pda_nil)) pda_nil))) (cA_Reader ca) (T.cl .Reader) T.me_m_Reader_is_deed (ih .m_Reader_is_deed) (hr.mono (Nat.le_refl _)) (T.bd .m_Reader_is_deed) (L2N.takes_of rfl rfl rfl rfl) (pda_cons (pd_var 1) (pda_cons (pd_lst pda_nil) pda_nil)))))
theorem sc_f_words_for : FnScope ["deed", "found", "part"] (pas .f_words_for) (defScope (stm .f_words_for)) := ⟨rfl, rfl, rfl, by decide +kernel, rfl, by decide +kernel, by decide +kernel⟩
theorem ok_f_words_for {n : Nat} (T : Tx K mg fa fdt ca ea) (ih : ∀ i, Ok P w K mg base fa fdt ca ea (n + 1) i) (ih2 : ∀ i, Ok P w K mg base fa fdt ca ea n i) : Ok P w K mg base fa fdt ca ea (n + 2) .f_words_for := by
  show FnOk P w K mg base (L2N.CX P w) (n + 1 + 1) (fa .f_words_for) (fdt .f_words_for) (pas .f_words_for) (spD ⟨K, cA ca, xA ea⟩ 1 (runFn 1 3 (b_f_words_for (csem (n + 1)) (csem n))))
  refine fn_ok (T := ⟨cA ca, xA ea⟩) (np := 1) (N := ["deed", "found", "part"]) (b := b_f_words_for (csem (n + 1)) (csem n)) (T.fn .f_words_for) sc_f_words_for rfl (fun cdv A outer s H E hr => ?_)
  unfold b_f_words_for
  exact (pssd_cons (psd_if (ptd_cmp (od_eq hr.units) (pd_sub (hu_of hr) (pd_var 0) pd_int) pd_str (nomark _)) (pssd_cons (psd_asg (pd_lst (pda_cons pd_str (pda_cons pd_str (pda_cons (pd_callTy cd_strX (by rfl) T.z_str (by rfl) (pda_cons (pd_sub (hu_of hr) (pd_var 0) pd_int) pda_nil)) (pda_cons pd_str pda_nil))))) (pgd_name 1 sc_f_words_for.nd))
    (pssd_cons (psd_for (passes_of rfl) rfl (pid_any (pd_sub (hu_of hr) (pd_var 0) pd_int)) (pgd_name 2 sc_f_words_for.nd) (pssd_one (psd_asg (pd_bin od_add (pd_var 1) (pd_call (ih .f_words_for) (hr.mono (Nat.le_refl _)) (by rfl) T.mg_f_words_for T.kp_f_words_for (T.bd .f_words_for) (L2N.takes_of rfl rfl rfl rfl) (pda_cons (pd_var 2) pda_nil))) (pgd_name 1 sc_f_words_for.nd))))
    (pssd_cons (psd_asg (pd_bin od_add (pd_var 1) (pd_lst (pda_cons pd_str (pda_cons pd_str pda_nil)))) (pgd_name 1 sc_f_words_for.nd))
    (pssd_cons (psd_for (passes_of rfl) rfl (pid_any (pd_sub (hu_of hr) (pd_var 0) pd_int)) (pgd_name 2 sc_f_words_for.nd) (pssd_one (psd_asg (pd_bin od_add (pd_var 1) (pd_call (ih .f_words_for) (hr.mono (Nat.le_refl _)) (by rfl) T.mg_f_words_for T.kp_f_words_for (T.bd .f_words_for) (L2N.takes_of rfl rfl rfl rfl) (pda_cons (pd_var 2) pda_nil))) (pgd_name 1 sc_f_words_for.nd))))
    (pssd_one (psd_ret (pd_bin od_add (pd_var 1) (pd_lst (pda_cons pd_str (pda_cons pd_str pda_nil)))))))))) pssd_nil)
    (pssd_cons (psd_asg (pd_lst (pda_cons pd_str (pda_cons (pd_sub (hu_of hr) (pd_var 0) pd_int) pda_nil))) (pgd_name 1 sc_f_words_for.nd))
    (pssd_cons (psd_for (passes_of rfl) rfl (pid_any (pd_sl (pd_var 0) (pod_some pd_int) pod_none)) (pgd_name 2 sc_f_words_for.nd) (pssd_one (psd_asg (pd_bin od_add (pd_var 1) (pd_if (ptd_val (pd_isi (by rfl) T.z_isinstance (by rfl) T.z_tuple (by rfl) (by rfl) (pd_var 2))) (pd_call (ih .f_words_for) (hr.mono (Nat.le_refl _)) (by rfl) T.mg_f_words_for T.kp_f_words_for (T.bd .f_words_for) (L2N.takes_of rfl rfl rfl rfl) (pda_cons (pd_var 2) pda_nil)) (pd_lst (pda_cons (pd_callTy cd_strX (by rfl) T.z_str (by rfl) (pda_cons (pd_var 2) pda_nil)) pda_nil)))) (pgd_name 1 sc_f_words_for.nd))))
    (pssd_one (psd_ret (pd_bin od_add (pd_var 1) (pd_lst (pda_cons pd_str pda_nil))))))))
theorem sc_f_written : FnScope ["deed"] (pas .f_written) (defScope (stm .f_written)) := ⟨rfl, rfl, rfl, by decide +kernel, rfl, by decide +kernel, by decide +kernel⟩
theorem ok_f_written {n : Nat} (T : Tx K mg fa fdt ca ea) (ih : ∀ i, Ok P w K mg base fa fdt ca ea (n + 1) i) (ih2 : ∀ i, Ok P w K mg base fa fdt ca ea n i) : Ok P w K mg base fa fdt ca ea (n + 2) .f_written := by
  show FnOk P w K mg base (L2N.CX P w) (n + 1 + 1) (fa .f_written) (fdt .f_written) (pas .f_written) (spD ⟨K, cA ca, xA ea⟩ 1 (runFn 1 1 (b_f_written (csem (n + 1)) (csem n))))
  refine fn_ok (T := ⟨cA ca, xA ea⟩) (np := 1) (N := ["deed"]) (b := b_f_written (csem (n + 1)) (csem n)) (T.fn .f_written) sc_f_written rfl (fun cdv A outer s H E hr => ?_)
  unfold b_f_written
  exact (pssd_one (psd_ret (pd_join pd_str (pd_call (ih .f_words_for) (hr.mono (Nat.le_refl _)) (by rfl) T.mg_f_words_for T.kp_f_words_for (T.bd .f_words_for) (L2N.takes_of rfl rfl rfl rfl) (pda_cons (pd_var 0) pda_nil)))))
theorem sc_m_Words_init : FnScope ["self", "words"] (pas .m_Words_init) (defScope (stm .m_Words_init)) := ⟨rfl, rfl, rfl, by decide +kernel, rfl, by decide +kernel, by decide +kernel⟩
theorem ok_m_Words_init {n : Nat} (T : Tx K mg fa fdt ca ea) (ih : ∀ i, Ok P w K mg base fa fdt ca ea (n + 1) i) (ih2 : ∀ i, Ok P w K mg base fa fdt ca ea n i) : Ok P w K mg base fa fdt ca ea (n + 2) .m_Words_init := by
  show FnOk P w K mg base (L2N.CX P w) (n + 1 + 1) (fa .m_Words_init) (fdt .m_Words_init) (pas .m_Words_init) (spD ⟨K, cA ca, xA ea⟩ 2 (runFn 2 2 (b_m_Words_init (csem (n + 1)) (csem n))))
  refine fn_ok (T := ⟨cA ca, xA ea⟩) (np := 2) (N := ["self", "words"]) (b := b_m_Words_init (csem (n + 1)) (csem n)) (T.fn .m_Words_init) sc_m_Words_init rfl (fun cdv A outer s H E hr => ?_)
  unfold b_m_Words_init
  exact (pssd_one (psd_fld (T.fld_left) (pd_var 0) (pd_rev (pd_var 1))))
theorem sc_m_Words_next_word : FnScope ["self"] (pas .m_Words_next_word) (defScope (stm .m_Words_next_word)) := ⟨rfl, rfl, rfl, by decide +kernel, rfl, by decide +kernel, by decide +kernel⟩
theorem ok_m_Words_next_word {n : Nat} (T : Tx K mg fa fdt ca ea) (ih : ∀ i, Ok P w K mg base fa fdt ca ea (n + 1) i) (ih2 : ∀ i, Ok P w K mg base fa fdt ca ea n i) : Ok P w K mg base fa fdt ca ea (n + 2) .m_Words_next_word := by
  show FnOk P w K mg base (L2N.CX P w) (n + 1 + 1) (fa .m_Words_next_word) (fdt .m_Words_next_word) (pas .m_Words_next_word) (spD ⟨K, cA ca, xA ea⟩ 1 (runFn 1 1 (b_m_Words_next_word (csem (n + 1)) (csem n))))
  refine fn_ok (T := ⟨cA ca, xA ea⟩) (np := 1) (N := ["self"]) (b := b_m_Words_next_word (csem (n + 1)) (csem n)) (T.fn .m_Words_next_word) sc_m_Words_next_word rfl (fun cdv A outer s H E hr => ?_)
  unfold b_m_Words_next_word
  exact (pssd_cons (psd_if (ptd_cmp (od_eq hr.units) (pd_fld (T.fld_left) (pd_var 0)) (pd_lst pda_nil) (nomark _)) (pssd_one (psd_raise1 rfl (L2N.takes_of rfl rfl rfl rfl) (xA_NoText ea) (T.xc .NoText) T.mg_NoText (by rfl))) pssd_nil)
    (pssd_one (psd_ret (pd_pop (pd_fld (T.fld_left) (pd_var 0))))))
theorem sc_m_Words_thing : FnScope ["self", "word", "deep", "sign"] (pas .m_Words_thing) (defScope (stm .m_Words_thing)) := ⟨rfl, rfl, rfl, by decide +kernel, rfl, by decide +kernel, by decide +kernel⟩
theorem ok_m_Words_thing {n : Nat} (T : Tx K mg fa fdt ca ea) (ih : ∀ i, Ok P w K mg base fa fdt ca ea (n + 1) i) (ih2 : ∀ i, Ok P w K mg base fa fdt ca ea n i) : Ok P w K mg base fa fdt ca ea (n + 2) .m_Words_thing := by
  show FnOk P w K mg base (L2N.CX P w) (n + 1 + 1) (fa .m_Words_thing) (fdt .m_Words_thing) (pas .m_Words_thing) (spD ⟨K, cA ca, xA ea⟩ 3 (runFn 3 4 (b_m_Words_thing (csem (n + 1)) (csem n))))
  refine fn_ok (T := ⟨cA ca, xA ea⟩) (np := 3) (N := ["self", "word", "deep", "sign"]) (b := b_m_Words_thing (csem (n + 1)) (csem n)) (T.fn .m_Words_thing) sc_m_Words_thing rfl (fun cdv A outer s H E hr => ?_)
  unfold b_m_Words_thing
  exact (pssd_cons (psd_if (PW.pt (pwd_and (ptd_cmp (od_eq hr.units) (pd_var 1) pd_str (nomark _)) (pwd_and1 (ptd_cmp od_gt (pd_var 2) pd_int (nomark _))))) (pssd_one (psd_ret (pd_meth (c := "Words") (pd_var 0) (cA_Words ca) (T.cl .Words) T.me_m_Words_row (ih .m_Words_row) (hr.mono (Nat.le_refl _)) (T.bd .m_Words_row) (L2N.takes_of rfl rfl rfl rfl) (pda_cons pd_str (pda_cons (pd_bin od_sub (pd_var 2) pd_int) pda_nil))))) pssd_nil)
    (pssd_cons (psd_if (PW.pt (pwd_and (ptd_cmp (od_eq hr.units) (pd_var 1) pd_str (nomark _)) (pwd_and1 (ptd_cmp od_gt (pd_var 2) pd_int (nomark _))))) (pssd_one (psd_ret (pd_meth (c := "Words") (pd_var 0) (cA_Words ca) (T.cl .Words) T.me_m_Words_row (ih .m_Words_row) (hr.mono (Nat.le_refl _)) (T.bd .m_Words_row) (L2N.takes_of rfl rfl rfl rfl) (pda_cons pd_str (pda_cons (pd_bin od_sub (pd_var 2) pd_int) pda_nil))))) pssd_nil)
    (pssd_cons (psd_if (PW.pt (pwd_and (ptd_cmp (od_ne hr.units) (pd_var 1) pd_str (nomark _)) (pwd_and (ptd_cmp od_le (pd_callB cd_len (by rfl) T.z_len (by rfl) (pda_cons (pd_var 1) pda_nil)) pd_int (nomark _)) (pwd_and1 (ptd_val (pd_callB (cd_all rfl) (by rfl) T.z_all (by rfl) (pda_cons (pd_lc (own := [("sign", 3)]) rfl (by exact sc_m_Words_thing.nd) (by exact (pid_any (pd_var 1))) (by exact (blkOk_by (own := [("sign", 3)]) (N := ["self", "word", "deep", "sign"]) (sc := defScope (stm .m_Words_thing)) (by decide +kernel))) (fun _ _ _ _ _ => by exact (pgd_name 3 sc_m_Words_thing.nd)) (fun _ _ _ _ _ => by exact ptsd_nil) (fun _ _ _ _ _ => by exact (pd_cmp (od_in hr.u65) (pd_var 3) (pd_gstr (by rfl) T.g_FIGURES.choose_spec) (by rfl)))) pda_nil))))))) (pssd_one (psd_ret (pd_callTy cd_intS (by rfl) T.z_int (by rfl) (pda_cons (pd_var 1) pda_nil)))) pssd_nil)
    (pssd_one (psd_ret (pd_var 1))))))
theorem sc_m_Words_row : FnScope ["self", "end", "deep", "found", "word"] (pas .m_Words_row) (defScope (stm .m_Words_row)) := ⟨rfl, rfl, rfl, by decide +kernel, rfl, by decide +kernel, by decide +kernel⟩
theorem ok_m_Words_row {n : Nat} (T : Tx K mg fa fdt ca ea) (ih : ∀ i, Ok P w K mg base fa fdt ca ea (n + 1) i) (ih2 : ∀ i, Ok P w K mg base fa fdt ca ea n i) : Ok P w K mg base fa fdt ca ea (n + 2) .m_Words_row := by
  show FnOk P w K mg base (L2N.CX P w) (n + 1 + 1) (fa .m_Words_row) (fdt .m_Words_row) (pas .m_Words_row) (spD ⟨K, cA ca, xA ea⟩ 3 (runFn 3 5 (b_m_Words_row (csem (n + 1)) (csem n))))
  refine fn_ok (T := ⟨cA ca, xA ea⟩) (np := 3) (N := ["self", "end", "deep", "found", "word"]) (b := b_m_Words_row (csem (n + 1)) (csem n)) (T.fn .m_Words_row) sc_m_Words_row rfl (fun cdv A outer s H E hr => ?_)
  unfold b_m_Words_row
  exact (pssd_cons (psd_asg (pd_tup pda_nil) (pgd_name 3 sc_m_Words_row.nd))
    (pssd_cons (psd_asg (pd_meth0 (c := "Words") (pd_var 0) (cA_Words ca) (T.cl .Words) T.me_m_Words_next_word (ih .m_Words_next_word) (hr.mono (Nat.le_refl _)) (T.bd .m_Words_next_word) (L2N.takes_of rfl rfl rfl rfl)) (pgd_name 4 sc_m_Words_row.nd))
    (pssd_cons (psd_while 1000000 (passes_of rfl) (ptd_cmp (od_ne hr.units) (pd_var 4) (pd_var 1) (nomark _)) (pssd_cons (psd_asg (pd_bin od_add (pd_var 3) (pd_tup (pda_cons (pd_meth (c := "Words") (pd_var 0) (cA_Words ca) (T.cl .Words) T.me_m_Words_thing (ih .m_Words_thing) (hr.mono (Nat.le_refl _)) (T.bd .m_Words_thing) (L2N.takes_of rfl rfl rfl rfl) (pda_cons (pd_var 4) (pda_cons (pd_var 2) pda_nil))) pda_nil))) (pgd_name 3 sc_m_Words_row.nd))
    (pssd_one (psd_asg (pd_meth0 (c := "Words") (pd_var 0) (cA_Words ca) (T.cl .Words) T.me_m_Words_next_word (ih .m_Words_next_word) (hr.mono (Nat.le_refl _)) (T.bd .m_Words_next_word) (L2N.takes_of rfl rfl rfl rfl)) (pgd_name 4 sc_m_Words_row.nd)))))
    (pssd_one (psd_ret (pd_var 3))))))
theorem sc_f_read : FnScope ["rules", "text", "words", "deed"] (pas .f_read) (defScope (stm .f_read)) := ⟨rfl, rfl, rfl, by decide +kernel, rfl, by decide +kernel, by decide +kernel⟩
theorem ok_f_read {n : Nat} (T : Tx K mg fa fdt ca ea) (ih : ∀ i, Ok P w K mg base fa fdt ca ea (n + 1) i) (ih2 : ∀ i, Ok P w K mg base fa fdt ca ea n i) : Ok P w K mg base fa fdt ca ea (n + 2) .f_read := by
  show FnOk P w K mg base (L2N.CX P w) (n + 1 + 1) (fa .f_read) (fdt .f_read) (pas .f_read) (spD ⟨K, cA ca, xA ea⟩ 2 (runFn 2 4 (b_f_read (csem (n + 1)) (csem n))))
  refine fn_ok (T := ⟨cA ca, xA ea⟩) (np := 2) (N := ["rules", "text", "words", "deed"]) (b := b_f_read (csem (n + 1)) (csem n)) (T.fn .f_read) sc_f_read rfl (fun cdv A outer s H E hr => ?_)
  unfold b_f_read
  exact (pssd_cons (psd_asg (pd_make (c := "Words") (cA_Words ca) T.mk_Words (ih2 .m_Words_init) hr (by rfl) T.mg_Words (T.bd .m_Words_init) (L2N.takes_of rfl rfl rfl rfl) (pda_cons (pd_split (pd_var 1) pd_str) pda_nil)) (pgd_name 2 sc_f_read.nd))
    (pssd_cons (psd_asg (pd_meth (c := "Words") (pd_var 2) (cA_Words ca) (T.cl .Words) T.me_m_Words_thing (ih .m_Words_thing) (hr.mono (Nat.le_refl _)) (T.bd .m_Words_thing) (L2N.takes_of rfl rfl rfl rfl) (pda_cons (pd_meth0 (c := "Words") (pd_var 2) (cA_Words ca) (T.cl .Words) T.me_m_Words_next_word (ih .m_Words_next_word) (hr.mono (Nat.le_refl _)) (T.bd .m_Words_next_word) (L2N.takes_of rfl rfl rfl rfl)) (pda_cons (pd_bin od_mul pd_int (pd_gint (by rfl) T.g_MOST_PARTS.choose_spec)) pda_nil))) (pgd_name 3 sc_f_read.nd))
    (pssd_cons (psd_if (PW.pt (pwd_or (ptd_cmp (od_ne hr.units) (pd_fld (T.fld_left) (pd_var 2)) (pd_lst pda_nil) (nomark _)) (pwd_or (ptd_not (ptd_val (pd_call (ih .f_is_deed) (hr.mono (Nat.le_refl _)) (by rfl) T.mg_f_is_deed T.kp_f_is_deed (T.bd .f_is_deed) (L2N.takes_of rfl rfl rfl rfl) (pda_cons (pd_var 0) (pda_cons (pd_var 3) pda_nil))))) (pwd_or1 (ptd_cmp (od_ne hr.units) (pd_call (ih .f_written) (hr.mono (Nat.le_refl _)) (by rfl) T.mg_f_written T.kp_f_written (T.bd .f_written) (L2N.takes_of rfl rfl rfl rfl) (pda_cons (pd_var 3) pda_nil)) (pd_var 1) (nomark _)))))) (pssd_one (psd_raise1 rfl (L2N.takes_of rfl rfl rfl rfl) (xA_NoText ea) (T.xc .NoText) T.mg_NoText (by rfl))) pssd_nil)
    (pssd_one (psd_ret (pd_var 3))))))
theorem sc_f__law_cell : FnScope ["_law_script", "_law_k"] (pas .f__law_cell) (defScope (stm .f__law_cell)) := ⟨rfl, rfl, rfl, by decide +kernel, rfl, by decide +kernel, by decide +kernel⟩
theorem ok_f__law_cell {n : Nat} (T : Tx K mg fa fdt ca ea) (ih : ∀ i, Ok P w K mg base fa fdt ca ea (n + 1) i) (ih2 : ∀ i, Ok P w K mg base fa fdt ca ea n i) : Ok P w K mg base fa fdt ca ea (n + 2) .f__law_cell := by
  show FnOk P w K mg base (L2N.CX P w) (n + 1 + 1) (fa .f__law_cell) (fdt .f__law_cell) (pas .f__law_cell) (spD ⟨K, cA ca, xA ea⟩ 2 (runFn 2 2 (b_f__law_cell (csem (n + 1)) (csem n))))
  refine fn_ok (T := ⟨cA ca, xA ea⟩) (np := 2) (N := ["_law_script", "_law_k"]) (b := b_f__law_cell (csem (n + 1)) (csem n)) (T.fn .f__law_cell) sc_f__law_cell rfl (fun cdv A outer s H E hr => ?_)
  unfold b_f__law_cell
  exact (pssd_cons (psd_if (ptd_cmp (od_eq hr.units) (pd_var 0) (pd_lst pda_nil) (nomark _)) (pssd_one (psd_ret (pd_bin od_mul pd_int (pd_var 1)))) pssd_nil)
    (pssd_one (psd_ret (pd_bin od_add (pd_sub (hu_of hr) (pd_var 0) (pd_bin od_mod (pd_var 1) (pd_callB cd_len (by rfl) T.z_len (by rfl) (pda_cons (pd_var 0) pda_nil)))) (pd_bin od_mul pd_int (pd_bin od_div (pd_var 1) (pd_callB cd_len (by rfl) T.z_len (by rfl) (pda_cons (pd_var 0) pda_nil))))))))
theorem sc_f__law_drawn : FnScope ["_law_script", "_law_k", "_law_many", "_law_cell_here"] (pas .f__law_drawn) (defScope (stm .f__law_drawn)) := ⟨rfl, rfl, rfl, by decide +kernel, rfl, by decide +kernel, by decide +kernel⟩
theorem ok_f__law_drawn {n : Nat} (T : Tx K mg fa fdt ca ea) (ih : ∀ i, Ok P w K mg base fa fdt ca ea (n + 1) i) (ih2 : ∀ i, Ok P w K mg base fa fdt ca ea n i) : Ok P w K mg base fa fdt ca ea (n + 2) .f__law_drawn := by
  show FnOk P w K mg base (L2N.CX P w) (n + 1 + 1) (fa .f__law_drawn) (fdt .f__law_drawn) (pas .f__law_drawn) (spD ⟨K, cA ca, xA ea⟩ 3 (runFn 3 4 (b_f__law_drawn (csem (n + 1)) (csem n))))
  refine fn_ok (T := ⟨cA ca, xA ea⟩) (np := 3) (N := ["_law_script", "_law_k", "_law_many", "_law_cell_here"]) (b := b_f__law_drawn (csem (n + 1)) (csem n)) (T.fn .f__law_drawn) sc_f__law_drawn rfl (fun cdv A outer s H E hr => ?_)
  unfold b_f__law_drawn
  exact (pssd_cons (psd_asg (pd_bin od_mod (pd_bin od_add (pd_bin od_mul (pd_bin od_mod (pd_call (ih .f__law_cell) (hr.mono (Nat.le_refl _)) (by rfl) T.mg_f__law_cell T.kp_f__law_cell (T.bd .f__law_cell) (L2N.takes_of rfl rfl rfl rfl) (pda_cons (pd_var 0) (pda_cons (pd_var 1) pda_nil))) pd_int) pd_int) (pd_bin od_mul pd_int (pd_bin od_add (pd_var 1) pd_int))) pd_int) (pgd_name 3 sc_f__law_drawn.nd))
    (pssd_cons (psd_asg (pd_bin od_mod (pd_bin od_add (pd_bin od_mul (pd_var 3) (pd_var 3)) (pd_bin od_div (pd_var 3) pd_int)) pd_int) (pgd_name 3 sc_f__law_drawn.nd))
    (pssd_one (psd_ret (pd_bin od_mod (pd_bin od_div (pd_bin od_mod (pd_bin od_add (pd_bin od_mul (pd_var 3) (pd_var 3)) (pd_bin od_div (pd_var 3) pd_int)) pd_int) pd_int) (pd_var 2))))))
theorem sc_f__law_leaf : FnScope ["_law_script", "_law_at", "_law_known", "_law_names", "_law_owns", "_law_handed", "_law_way", "_law_shelves"] (pas .f__law_leaf) (defScope (stm .f__law_leaf)) := ⟨rfl, rfl, rfl, by decide +kernel, rfl, by decide +kernel, by decide +kernel⟩
theorem ok_f__law_leaf {n : Nat} (T : Tx K mg fa fdt ca ea) (ih : ∀ i, Ok P w K mg base fa fdt ca ea (n + 1) i) (ih2 : ∀ i, Ok P w K mg base fa fdt ca ea n i) : Ok P w K mg base fa fdt ca ea (n + 2) .f__law_leaf := by
  show FnOk P w K mg base (L2N.CX P w) (n + 1 + 1) (fa .f__law_leaf) (fdt .f__law_leaf) (pas .f__law_leaf) (spD ⟨K, cA ca, xA ea⟩ 3 (runFn 3 8 (b_f__law_leaf (csem (n + 1)) (csem n))))
  refine fn_ok (T := ⟨cA ca, xA ea⟩) (np := 3) (N := ["_law_script", "_law_at", "_law_known", "_law_names", "_law_owns", "_law_handed", "_law_way", "_law_shelves"]) (b := b_f__law_leaf (csem (n + 1)) (csem n)) (T.fn .f__law_leaf) sc_f__law_leaf rfl (fun cdv A outer s H E hr => ?_)
  unfold b_f__law_leaf
  exact (pssd_cons (psd_asg (pd_var 2) (pgd_tup (n := 3) rfl (pgd_cons (pgd_name 3 sc_f__law_leaf.nd) (pgd_cons (pgd_name 4 sc_f__law_leaf.nd) (pgd_cons (pgd_name 5 sc_f__law_leaf.nd) pgd_nil)))))
    (pssd_cons (psd_asg (pd_call (ih .f__law_drawn) (hr.mono (Nat.le_refl _)) (by rfl) T.mg_f__law_drawn T.kp_f__law_drawn (T.bd .f__law_drawn) (L2N.takes_of rfl rfl rfl rfl) (pda_cons (pd_var 0) (pda_cons (pd_var 1) (pda_cons pd_int pda_nil)))) (pgd_name 6 sc_f__law_leaf.nd))
    (pssd_cons (psd_if (ptd_cmp od_lt (pd_var 6) pd_int (nomark _)) (pssd_one (psd_ret (pd_tup (pda_cons pd_str (pda_cons (pd_sub (hu_of hr) (pd_lst (pda_cons pd_int (pda_cons pd_int (pda_cons pd_int (pda_cons pd_int (pda_cons pd_int (pda_cons pd_int pda_nil))))))) (pd_call (ih .f__law_drawn) (hr.mono (Nat.le_refl _)) (by rfl) T.mg_f__law_drawn T.kp_f__law_drawn (T.bd .f__law_drawn) (L2N.takes_of rfl rfl rfl rfl) (pda_cons (pd_var 0) (pda_cons (pd_bin od_add (pd_var 1) pd_int) (pda_cons pd_int pda_nil))))) pda_nil))))) pssd_nil)
    (pssd_cons (psd_if (PW.pt (pwd_and (ptd_cmp (od_eq hr.units) (pd_var 6) pd_int (nomark _)) (pwd_and1 (ptd_cmp (od_ne hr.units) (pd_var 3) (pd_tup pda_nil) (nomark _))))) (pssd_one (psd_ret (pd_tup (pda_cons pd_str (pda_cons (pd_sub (hu_of hr) (pd_var 3) (pd_call (ih .f__law_drawn) (hr.mono (Nat.le_refl _)) (by rfl) T.mg_f__law_drawn T.kp_f__law_drawn (T.bd .f__law_drawn) (L2N.takes_of rfl rfl rfl rfl) (pda_cons (pd_var 0) (pda_cons (pd_bin od_add (pd_var 1) pd_int) (pda_cons (pd_callB cd_len (by rfl) T.z_len (by rfl) (pda_cons (pd_var 3) pda_nil)) pda_nil))))) pda_nil))))) pssd_nil)
    (pssd_cons (psd_if (PW.pt (pwd_and (ptd_cmp (od_eq hr.units) (pd_var 6) pd_int (nomark _)) (pwd_and1 (ptd_cmp (od_ne hr.units) (pd_var 5) (pd_tup pda_nil) (nomark _))))) (pssd_one (psd_ret (pd_tup (pda_cons pd_str (pda_cons (pd_sub (hu_of hr) (pd_var 5) (pd_call (ih .f__law_drawn) (hr.mono (Nat.le_refl _)) (by rfl) T.mg_f__law_drawn T.kp_f__law_drawn (T.bd .f__law_drawn) (L2N.takes_of rfl rfl rfl rfl) (pda_cons (pd_var 0) (pda_cons (pd_bin od_add (pd_var 1) pd_int) (pda_cons (pd_callB cd_len (by rfl) T.z_len (by rfl) (pda_cons (pd_var 5) pda_nil)) pda_nil))))) pda_nil))))) pssd_nil)
    (pssd_cons (psd_if (ptd_cmp (od_eq hr.units) (pd_var 6) pd_int (nomark _)) (pssd_one (psd_ret (pd_tup (pda_cons pd_str pda_nil)))) pssd_nil)
    (pssd_cons (psd_asg (pd_bin od_add (pd_tup (pda_cons pd_str (pda_cons pd_str (pda_cons pd_str (pda_cons pd_str pda_nil))))) (pd_bin od_mul (pd_var 4) pd_int)) (pgd_name 7 sc_f__law_leaf.nd))
    (pssd_one (psd_ret (pd_tup (pda_cons pd_str (pda_cons (pd_sub (hu_of hr) (pd_var 7) (pd_call (ih .f__law_drawn) (hr.mono (Nat.le_refl _)) (by rfl) T.mg_f__law_drawn T.kp_f__law_drawn (T.bd .f__law_drawn) (L2N.takes_of rfl rfl rfl rfl) (pda_cons (pd_var 0) (pda_cons (pd_bin od_add (pd_var 1) pd_int) (pda_cons (pd_callB cd_len (by rfl) T.z_len (by rfl) (pda_cons (pd_var 7) pda_nil)) pda_nil))))) pda_nil))))))))))))
theorem sc_f__law_deed : FnScope ["_law_script", "_law_at", "_law_deep", "_law_known", "_law_rules_here", "_law_way", "_law_one", "_law_shelves", "_law_word", "_law_inner", "_law_other"] (pas .f__law_deed) (defScope (stm .f__law_deed)) := ⟨rfl, rfl, rfl, by decide +kernel, rfl, by decide +kernel, by decide +kernel⟩
theorem ok_f__law_deed {n : Nat} (T : Tx K mg fa fdt ca ea) (ih : ∀ i, Ok P w K mg base fa fdt ca ea (n + 1) i) (ih2 : ∀ i, Ok P w K mg base fa fdt ca ea n i) : Ok P w K mg base fa fdt ca ea (n + 2) .f__law_deed := by
  show FnOk P w K mg base (L2N.CX P w) (n + 1 + 1) (fa .f__law_deed) (fdt .f__law_deed) (pas .f__law_deed) (spD ⟨K, cA ca, xA ea⟩ 5 (runFn 5 11 (b_f__law_deed (csem (n + 1)) (csem n))))
  refine fn_ok (T := ⟨cA ca, xA ea⟩) (np := 5) (N := ["_law_script", "_law_at", "_law_deep", "_law_known", "_law_rules_here", "_law_way", "_law_one", "_law_shelves", "_law_word", "_law_inner", "_law_other"]) (b := b_f__law_deed (csem (n + 1)) (csem n)) (T.fn .f__law_deed) sc_f__law_deed rfl (fun cdv A outer s H E hr => ?_)
  unfold b_f__law_deed
  exact (pssd_cons (psd_asg (pd_call (ih .f__law_drawn) (hr.mono (Nat.le_refl _)) (by rfl) T.mg_f__law_drawn T.kp_f__law_drawn (T.bd .f__law_drawn) (L2N.takes_of rfl rfl rfl rfl) (pda_cons (pd_var 0) (pda_cons (pd_var 1) (pda_cons pd_int pda_nil)))) (pgd_name 5 sc_f__law_deed.nd))
    (pssd_cons (psd_if (PW.pt (pwd_or (ptd_cmp (od_eq hr.units) (pd_var 2) pd_int (nomark _)) (pwd_or1 (ptd_cmp od_lt (pd_var 5) pd_int (nomark _))))) (pssd_one (psd_ret (pd_call (ih .f__law_leaf) (hr.mono (Nat.le_refl _)) (by rfl) T.mg_f__law_leaf T.kp_f__law_leaf (T.bd .f__law_leaf) (L2N.takes_of rfl rfl rfl rfl) (pda_cons (pd_var 0) (pda_cons (pd_bin od_add (pd_var 1) pd_int) (pda_cons (pd_var 3) pda_nil)))))) pssd_nil)
    (pssd_cons (psd_if (PW.pt (pwd_and (ptd_cmp od_lt (pd_var 5) pd_int (nomark _)) (pwd_and1 (ptd_cmp (od_ne hr.units) (pd_var 4) (pd_tup pda_nil) (nomark _))))) (pssd_one (psd_ret (pd_call (ih .f__law_call) (hr.mono (Nat.le_refl _)) (by rfl) T.mg_f__law_call T.kp_f__law_call (T.bd .f__law_call) (L2N.takes_of rfl rfl rfl rfl) (pda_cons (pd_var 0) (pda_cons (pd_var 1) (pda_cons (pd_var 2) (pda_cons (pd_var 3) (pda_cons (pd_var 4) pda_nil)))))))) pssd_nil)
    (pssd_cons (psd_asg (pd_call (ih .f__law_deed) (hr.mono (Nat.le_refl _)) (by rfl) T.mg_f__law_deed T.kp_f__law_deed (T.bd .f__law_deed) (L2N.takes_of rfl rfl rfl rfl) (pda_cons (pd_var 0) (pda_cons (pd_bin od_add (pd_bin od_mul (pd_var 1) pd_int) pd_int) (pda_cons (pd_bin od_sub (pd_var 2) pd_int) (pda_cons (pd_var 3) (pda_cons (pd_var 4) pda_nil)))))) (pgd_name 6 sc_f__law_deed.nd))
    (pssd_cons (psd_if (ptd_cmp od_lt (pd_var 5) pd_int (nomark _)) (pssd_cons (psd_asg (pd_bin od_add (pd_tup (pda_cons pd_str (pda_cons pd_str (pda_cons pd_str (pda_cons pd_str pda_nil))))) (pd_bin od_mul (pd_sub (hu_of hr) (pd_var 3) pd_int) pd_int)) (pgd_name 7 sc_f__law_deed.nd))
    (pssd_one (psd_ret (pd_tup (pda_cons pd_str (pda_cons (pd_sub (hu_of hr) (pd_var 7) (pd_call (ih .f__law_drawn) (hr.mono (Nat.le_refl _)) (by rfl) T.mg_f__law_drawn T.kp_f__law_drawn (T.bd .f__law_drawn) (L2N.takes_of rfl rfl rfl rfl) (pda_cons (pd_var 0) (pda_cons (pd_bin od_add (pd_var 1) pd_int) (pda_cons (pd_callB cd_len (by rfl) T.z_len (by rfl) (pda_cons (pd_var 7) pda_nil)) pda_nil))))) (pda_cons (pd_var 6) pda_nil))))))) pssd_nil)
    (pssd_cons (psd_if (ptd_cmp (od_eq hr.units) (pd_var 5) pd_int (nomark _)) (pssd_one (psd_ret (pd_tup (pda_cons pd_str (pda_cons (pd_var 6) pda_nil))))) pssd_nil)
    (pssd_cons (psd_if (ptd_cmp (od_eq hr.units) (pd_var 5) pd_int (nomark _)) (pssd_cons (psd_asg (pd_sub (hu_of hr) (pd_lst (pda_cons pd_str (pda_cons pd_str (pda_cons pd_str pda_nil)))) (pd_call (ih .f__law_drawn) (hr.mono (Nat.le_refl _)) (by rfl) T.mg_f__law_drawn T.kp_f__law_drawn (T.bd .f__law_drawn) (L2N.takes_of rfl rfl rfl rfl) (pda_cons (pd_var 0) (pda_cons (pd_bin od_add (pd_var 1) pd_int) (pda_cons pd_int pda_nil))))) (pgd_name 8 sc_f__law_deed.nd))
    (pssd_one (psd_ret (pd_tup (pda_cons pd_str (pda_cons (pd_var 8) (pda_cons (pd_var 6) (pda_cons (pd_call (ih .f__law_deed) (hr.mono (Nat.le_refl _)) (by rfl) T.mg_f__law_deed T.kp_f__law_deed (T.bd .f__law_deed) (L2N.takes_of rfl rfl rfl rfl) (pda_cons (pd_var 0) (pda_cons (pd_bin od_add (pd_bin od_mul (pd_var 1) pd_int) pd_int) (pda_cons (pd_bin od_sub (pd_var 2) pd_int) (pda_cons (pd_bin od_add (pd_tup (pda_cons (pd_bin od_add (pd_sub (hu_of hr) (pd_var 3) pd_int) (pd_tup (pda_cons (pd_var 8) pda_nil))) pda_nil)) (pd_sl (pd_var 3) (pod_some pd_int) pod_none)) (pda_cons (pd_var 4) pda_nil)))))) pda_nil)))))))) pssd_nil)
    (pssd_cons (psd_if (ptd_cmp (od_eq hr.units) (pd_var 5) pd_int (nomark _)) (pssd_cons (psd_asg (pd_sub (hu_of hr) (pd_lst (pda_cons pd_str (pda_cons pd_str pda_nil))) (pd_call (ih .f__law_drawn) (hr.mono (Nat.le_refl _)) (by rfl) T.mg_f__law_drawn T.kp_f__law_drawn (T.bd .f__law_drawn) (L2N.takes_of rfl rfl rfl rfl) (pda_cons (pd_var 0) (pda_cons (pd_bin od_add (pd_var 1) pd_int) (pda_cons pd_int pda_nil))))) (pgd_name 8 sc_f__law_deed.nd))
    (pssd_cons (psd_asg (pd_tup (pda_cons (pd_sub (hu_of hr) (pd_var 3) pd_int) (pda_cons (pd_bin od_add (pd_sub (hu_of hr) (pd_var 3) pd_int) (pd_tup (pda_cons (pd_var 8) pda_nil))) (pda_cons (pd_sub (hu_of hr) (pd_var 3) pd_int) pda_nil)))) (pgd_name 9 sc_f__law_deed.nd))
    (pssd_one (psd_ret (pd_tup (pda_cons pd_str (pda_cons (pd_var 8) (pda_cons (pd_var 6) (pda_cons (pd_call (ih .f__law_deed) (hr.mono (Nat.le_refl _)) (by rfl) T.mg_f__law_deed T.kp_f__law_deed (T.bd .f__law_deed) (L2N.takes_of rfl rfl rfl rfl) (pda_cons (pd_var 0) (pda_cons (pd_bin od_add (pd_bin od_mul (pd_var 1) pd_int) pd_int) (pda_cons (pd_bin od_sub (pd_var 2) pd_int) (pda_cons (pd_var 9) (pda_cons (pd_var 4) pda_nil)))))) pda_nil))))))))) pssd_nil)
    (pssd_cons (psd_asg (pd_call (ih .f__law_deed) (hr.mono (Nat.le_refl _)) (by rfl) T.mg_f__law_deed T.kp_f__law_deed (T.bd .f__law_deed) (L2N.takes_of rfl rfl rfl rfl) (pda_cons (pd_var 0) (pda_cons (pd_bin od_add (pd_bin od_mul (pd_var 1) pd_int) pd_int) (pda_cons (pd_bin od_sub (pd_var 2) pd_int) (pda_cons (pd_var 3) (pda_cons (pd_var 4) pda_nil)))))) (pgd_name 10 sc_f__law_deed.nd))
    (pssd_cons (psd_if (ptd_cmp (od_eq hr.units) (pd_var 5) pd_int (nomark _)) (pssd_one (psd_ret (pd_tup (pda_cons pd_str (pda_cons (pd_var 6) (pda_cons (pd_var 10) (pda_cons (pd_call (ih .f__law_deed) (hr.mono (Nat.le_refl _)) (by rfl) T.mg_f__law_deed T.kp_f__law_deed (T.bd .f__law_deed) (L2N.takes_of rfl rfl rfl rfl) (pda_cons (pd_var 0) (pda_cons (pd_bin od_add (pd_bin od_mul (pd_var 1) pd_int) pd_int) (pda_cons (pd_bin od_sub (pd_var 2) pd_int) (pda_cons (pd_var 3) (pda_cons (pd_var 4) pda_nil)))))) pda_nil))))))) pssd_nil)
    (pssd_one (psd_ret (pd_bin od_add (pd_sub (hu_of hr) (pd_lst (pda_cons (pd_tup (pda_cons pd_str pda_nil)) (pda_cons (pd_tup (pda_cons pd_str pda_nil)) (pda_cons (pd_tup (pda_cons pd_str pda_nil)) (pda_cons (pd_tup (pda_cons pd_str pda_nil)) (pda_cons (pd_tup (pda_cons pd_str pda_nil)) pda_nil)))))) (pd_bin od_sub (pd_var 5) pd_int)) (pd_tup (pda_cons (pd_var 6) (pda_cons (pd_var 10) pda_nil))))))))))))))))
theorem sc_f__law_call : FnScope ["_law_script", "_law_at", "_law_deep", "_law_known", "_law_rules_here", "_law_number", "_law_size", "_law_parts", "_law_k"] (pas .f__law_call) (defScope (stm .f__law_call)) := ⟨rfl, rfl, rfl, by decide +kernel, rfl, by decide +kernel, by decide +kernel⟩
theorem ok_f__law_call {n : Nat} (T : Tx K mg fa fdt ca ea) (ih : ∀ i, Ok P w K mg base fa fdt ca ea (n + 1) i) (ih2 : ∀ i, Ok P w K mg base fa fdt ca ea n i) : Ok P w K mg base fa fdt ca ea (n + 2) .f__law_call := by
  show FnOk P w K mg base (L2N.CX P w) (n + 1 + 1) (fa .f__law_call) (fdt .f__law_call) (pas .f__law_call) (spD ⟨K, cA ca, xA ea⟩ 5 (runFn 5 9 (b_f__law_call (csem (n + 1)) (csem n))))
  refine fn_ok (T := ⟨cA ca, xA ea⟩) (np := 5) (N := ["_law_script", "_law_at", "_law_deep", "_law_known", "_law_rules_here", "_law_number", "_law_size", "_law_parts", "_law_k"]) (b := b_f__law_call (csem (n + 1)) (csem n)) (T.fn .f__law_call) sc_f__law_call rfl (fun cdv A outer s H E hr => ?_)
  unfold b_f__law_call
  exact (pssd_cons (psd_asg (pd_call (ih .f__law_drawn) (hr.mono (Nat.le_refl _)) (by rfl) T.mg_f__law_drawn T.kp_f__law_drawn (T.bd .f__law_drawn) (L2N.takes_of rfl rfl rfl rfl) (pda_cons (pd_var 0) (pda_cons (pd_bin od_add (pd_var 1) pd_int) (pda_cons (pd_callB cd_len (by rfl) T.z_len (by rfl) (pda_cons (pd_var 4) pda_nil)) pda_nil)))) (pgd_name 5 sc_f__law_call.nd))
    (pssd_cons (psd_asg (pd_callB cd_len (by rfl) T.z_len (by rfl) (pda_cons (pd_sub (hu_of hr) (pd_sub (hu_of hr) (pd_var 4) (pd_var 5)) pd_int) pda_nil)) (pgd_name 6 sc_f__law_call.nd))
    (pssd_cons (psd_asg (pd_lst pda_nil) (pgd_name 7 sc_f__law_call.nd))
    (pssd_cons (psd_for (passes_of rfl) rfl (pid_range1 (by rfl) T.z_range (pd_bin od_add (pd_var 6) (pd_callB cd_len (by rfl) T.z_len (by rfl) (pda_cons (pd_sub (hu_of hr) (pd_sub (hu_of hr) (pd_var 4) (pd_var 5)) pd_int) pda_nil)))) (pgd_name 8 sc_f__law_call.nd) (pssd_one (psd_expr (pd_append (pd_var 7) (pd_call (ih .f__law_deed) (hr.mono (Nat.le_refl _)) (by rfl) T.mg_f__law_deed T.kp_f__law_deed (T.bd .f__law_deed) (L2N.takes_of rfl rfl rfl rfl) (pda_cons (pd_var 0) (pda_cons (pd_bin od_add (pd_bin od_add (pd_bin od_mul (pd_var 1) pd_int) pd_int) (pd_bin od_mul pd_int (pd_var 8))) (pda_cons (pd_bin od_sub (pd_var 2) pd_int) (pda_cons (pd_var 3) (pda_cons (pd_var 4) pda_nil))))))))))
    (pssd_one (psd_ret (pd_tup (pda_cons pd_str (pda_cons (pd_var 5) (pda_cons (pd_callTy cd_tuple (by rfl) T.z_tuple (by rfl) (pda_cons (pd_sl (pd_var 7) pod_none (pod_some (pd_var 6))) pda_nil)) (pda_cons (pd_callTy cd_tuple (by rfl) T.z_tuple (by rfl) (pda_cons (pd_sl (pd_var 7) (pod_some (pd_var 6)) pod_none) pda_nil)) pda_nil)))))))))))
theorem sc_f__law_rules : FnScope ["_law_script", "_law_at", "_law_rules_here", "_law_k", "_law_names", "_law_handed", "_law_body"] (pas .f__law_rules) (defScope (stm .f__law_rules)) := ⟨rfl, rfl, rfl, by decide +kernel, rfl, by decide +kernel, by decide +kernel⟩
theorem ok_f__law_rules {n : Nat} (T : Tx K mg fa fdt ca ea) (ih : ∀ i, Ok P w K mg base fa fdt ca ea (n + 1) i) (ih2 : ∀ i, Ok P w K mg base fa fdt ca ea n i) : Ok P w K mg base fa fdt ca ea (n + 2) .f__law_rules := by
  show FnOk P w K mg base (L2N.CX P w) (n + 1 + 1) (fa .f__law_rules) (fdt .f__law_rules) (pas .f__law_rules) (spD ⟨K, cA ca, xA ea⟩ 2 (runFn 2 7 (b_f__law_rules (csem (n + 1)) (csem n))))
  refine fn_ok (T := ⟨cA ca, xA ea⟩) (np := 2) (N := ["_law_script", "_law_at", "_law_rules_here", "_law_k", "_law_names", "_law_handed", "_law_body"]) (b := b_f__law_rules (csem (n + 1)) (csem n)) (T.fn .f__law_rules) sc_f__law_rules rfl (fun cdv A outer s H E hr => ?_)
  unfold b_f__law_rules
  exact (pssd_cons (psd_asg (pd_tup pda_nil) (pgd_name 2 sc_f__law_rules.nd))
    (pssd_cons (psd_for (passes_of rfl) rfl (pid_range1 (by rfl) T.z_range (pd_call (ih .f__law_drawn) (hr.mono (Nat.le_refl _)) (by rfl) T.mg_f__law_drawn T.kp_f__law_drawn (T.bd .f__law_drawn) (L2N.takes_of rfl rfl rfl rfl) (pda_cons (pd_var 0) (pda_cons (pd_var 1) (pda_cons pd_int pda_nil))))) (pgd_name 3 sc_f__law_rules.nd) (pssd_cons (psd_asg (pd_sub (hu_of hr) (pd_lst (pda_cons (pd_tup pda_nil) (pda_cons (pd_tup (pda_cons pd_str pda_nil)) (pda_cons (pd_tup (pda_cons pd_str (pda_cons pd_str pda_nil))) pda_nil)))) (pd_call (ih .f__law_drawn) (hr.mono (Nat.le_refl _)) (by rfl) T.mg_f__law_drawn T.kp_f__law_drawn (T.bd .f__law_drawn) (L2N.takes_of rfl rfl rfl rfl) (pda_cons (pd_var 0) (pda_cons (pd_bin od_add (pd_bin od_add (pd_var 1) pd_int) (pd_bin od_mul pd_int (pd_var 3))) (pda_cons pd_int pda_nil))))) (pgd_name 4 sc_f__law_rules.nd))
    (pssd_cons (psd_asg (pd_sub (hu_of hr) (pd_lst (pda_cons (pd_tup pda_nil) (pda_cons (pd_tup (pda_cons pd_str pda_nil)) (pda_cons (pd_tup (pda_cons pd_str (pda_cons pd_str pda_nil))) pda_nil)))) (pd_call (ih .f__law_drawn) (hr.mono (Nat.le_refl _)) (by rfl) T.mg_f__law_drawn T.kp_f__law_drawn (T.bd .f__law_drawn) (L2N.takes_of rfl rfl rfl rfl) (pda_cons (pd_var 0) (pda_cons (pd_bin od_add (pd_bin od_add (pd_var 1) pd_int) (pd_bin od_mul pd_int (pd_var 3))) (pda_cons pd_int pda_nil))))) (pgd_name 5 sc_f__law_rules.nd))
    (pssd_cons (psd_asg (pd_call (ih .f__law_deed) (hr.mono (Nat.le_refl _)) (by rfl) T.mg_f__law_deed T.kp_f__law_deed (T.bd .f__law_deed) (L2N.takes_of rfl rfl rfl rfl) (pda_cons (pd_var 0) (pda_cons (pd_bin od_add (pd_bin od_add (pd_var 1) pd_int) (pd_bin od_mul pd_int (pd_var 3))) (pda_cons pd_int (pda_cons (pd_tup (pda_cons (pd_var 4) (pda_cons (pd_tup pda_nil) (pda_cons (pd_var 5) pda_nil)))) (pda_cons (pd_var 2) pda_nil)))))) (pgd_name 6 sc_f__law_rules.nd))
    (pssd_one (psd_asg (pd_bin od_add (pd_var 2) (pd_tup (pda_cons (pd_tup (pda_cons (pd_var 4) (pda_cons (pd_var 5) (pda_cons (pd_var 6) pda_nil)))) pda_nil))) (pgd_name 2 sc_f__law_rules.nd)))))))
    (pssd_one (psd_ret (pd_var 2)))))
theorem sc_f__law_words : FnScope ["_law_thing", "_law_is_deed_here", "_law_found", "_law_part"] (pas .f__law_words) (defScope (stm .f__law_words)) := ⟨rfl, rfl, rfl, by decide +kernel, rfl, by decide +kernel, by decide +kernel⟩
theorem ok_f__law_words {n : Nat} (T : Tx K mg fa fdt ca ea) (ih : ∀ i, Ok P w K mg base fa fdt ca ea (n + 1) i) (ih2 : ∀ i, Ok P w K mg base fa fdt ca ea n i) : Ok P w K mg base fa fdt ca ea (n + 2) .f__law_words := by
  show FnOk P w K mg base (L2N.CX P w) (n + 1 + 1) (fa .f__law_words) (fdt .f__law_words) (pas .f__law_words) (spD ⟨K, cA ca, xA ea⟩ 2 (runFn 2 4 (b_f__law_words (csem (n + 1)) (csem n) (lsem (n + 1)) (lsem n))))
  refine fn_ok (T := ⟨cA ca, xA ea⟩) (np := 2) (N := ["_law_thing", "_law_is_deed_here", "_law_found", "_law_part"]) (b := b_f__law_words (csem (n + 1)) (csem n) (lsem (n + 1)) (lsem n)) (T.fn .f__law_words) sc_f__law_words rfl (fun cdv A outer s H E hr => ?_)
  unfold b_f__law_words
  exact (pssd_cons (psd_if (ptd_not (ptd_val (pd_isi (by rfl) T.z_isinstance (by rfl) T.z_tuple (by rfl) (by rfl) (pd_var 0)))) (pssd_one (psd_ret (pd_lst (pda_cons (pd_callTy cd_strX (by rfl) T.z_str (by rfl) (pda_cons (pd_var 0) pda_nil)) pda_nil)))) pssd_nil)
    (pssd_cons (psd_asg (pd_lst pda_nil) (pgd_name 2 sc_f__law_words.nd))
    (pssd_cons (psd_for (passes_of rfl) rfl (pid_any (pd_var 0)) (pgd_name 3 sc_f__law_words.nd) (pssd_one (psd_asg (pd_bin od_add (pd_var 2) (pd_call (ih .f__law_words) (hr.mono (Nat.le_refl _)) (by rfl) T.mg_f__law_words T.kp_f__law_words (T.bd .f__law_words) (L2N.takes_of rfl rfl rfl rfl) (pda_cons (pd_var 3) (pda_cons (pd_or (pd_not (pd_var 1)) (pd_one (pd_cmp (od_ne hr.units) (pd_sub (hu_of hr) (pd_var 0) pd_int) pd_str (nomark _)))) pda_nil)))) (pgd_name 2 sc_f__law_words.nd))))
    (pssd_cons (psd_if (ptd_val (pd_var 1)) (pssd_one (psd_ret (pd_bin od_add (pd_bin od_add (pd_lst (pda_cons pd_str pda_nil)) (pd_var 2)) (pd_lst (pda_cons pd_str pda_nil))))) pssd_nil)
    (pssd_one (psd_ret (pd_bin od_add (pd_bin od_add (pd_lst (pda_cons pd_str pda_nil)) (pd_var 2)) (pd_lst (pda_cons pd_str pda_nil)))))))))
theorem sc_f__law_weight : FnScope ["_law_rules_here", "_law_deed_here", "_law_handed", "_law_word", "_law_there", "_law_parts", "_law_inner", "_law_one", "_law_part"] (pas .f__law_weight) (defScope (stm .f__law_weight)) := ⟨rfl, rfl, rfl, by decide +kernel, rfl, by decide +kernel, by decide +kernel⟩
theorem ok_f__law_weight {n : Nat} (T : Tx K mg fa fdt ca ea) (ih : ∀ i, Ok P w K mg base fa fdt ca ea (n + 1) i) (ih2 : ∀ i, Ok P w K mg base fa fdt ca ea n i) : Ok P w K mg base fa fdt ca ea (n + 2) .f__law_weight := by
  show FnOk P w K mg base (L2N.CX P w) (n + 1 + 1) (fa .f__law_weight) (fdt .f__law_weight) (pas .f__law_weight) (spD ⟨K, cA ca, xA ea⟩ 3 (runFn 3 9 (b_f__law_weight (csem (n + 1)) (csem n))))
  refine fn_ok (T := ⟨cA ca, xA ea⟩) (np := 3) (N := ["_law_rules_here", "_law_deed_here", "_law_handed", "_law_word", "_law_there", "_law_parts", "_law_inner", "_law_one", "_law_part"]) (b := b_f__law_weight (csem (n + 1)) (csem n)) (T.fn .f__law_weight) sc_f__law_weight rfl (fun cdv A outer s H E hr => ?_)
  unfold b_f__law_weight
  exact (pssd_cons (psd_asg (pd_sub (hu_of hr) (pd_var 1) pd_int) (pgd_name 3 sc_f__law_weight.nd))
    (pssd_cons (psd_if (ptd_cmp (od_in hr.u65) (pd_var 3) (pd_tup (pda_cons pd_str (pda_cons pd_str (pda_cons pd_str (pda_cons pd_str pda_nil))))) (by rfl)) (pssd_one (psd_ret pd_int)) pssd_nil)
    (pssd_cons (psd_if (ptd_cmp (od_eq hr.units) (pd_var 3) pd_str (nomark _)) (pssd_one (psd_ret (pd_get2 (hu_of hr) (pd_var 2) (pd_sub (hu_of hr) (pd_var 1) pd_int) pd_int))) pssd_nil)
    (pssd_cons (psd_if (ptd_cmp (od_eq hr.units) (pd_var 3) pd_str (nomark _)) (pssd_cons (psd_asg (pd_callTy (cd_dict rfl) (by rfl) T.z_dict (by rfl) (pda_cons (pd_lc (own := [("_law_one", 7), ("_law_part", 8)]) rfl (by exact sc_f__law_weight.nd) (by exact (pid_zip (by rfl) T.z_zip (pd_sub (hu_of hr) (pd_sub (hu_of hr) (pd_var 0) (pd_sub (hu_of hr) (pd_var 1) pd_int)) pd_int) (pd_sub (hu_of hr) (pd_var 1) pd_int))) (by exact (blkOk_by (own := [("_law_one", 7), ("_law_part", 8)]) (N := ["_law_rules_here", "_law_deed_here", "_law_handed", "_law_word", "_law_there", "_law_parts", "_law_inner", "_law_one", "_law_part"]) (sc := defScope (stm .f__law_weight)) (by decide +kernel))) (fun _ _ _ _ _ => by exact (pgd_tup (n := 2) rfl (pgd_cons (pgd_name 7 sc_f__law_weight.nd) (pgd_cons (pgd_name 8 sc_f__law_weight.nd) pgd_nil)))) (fun _ _ _ _ _ => by exact ptsd_nil) (fun _ _ _ _ _ => by exact (pd_tup (pda_cons (pd_var 7) (pda_cons (pd_call (ih .f__law_weight) (hr.mono (Nat.le_refl _)) (by rfl) T.mg_f__law_weight T.kp_f__law_weight (T.bd .f__law_weight) takes0N (pda_cons (pd_var 0) (pda_cons (pd_var 8) (pda_cons (pd_var 2) pda_nil)))) pda_nil))))) pda_nil)) (pgd_name 4 sc_f__law_weight.nd))
    (pssd_cons (psd_asg (pd_callB (cd_sum rfl) (by rfl) T.z_sum (by rfl) (pda_cons (pd_lc (own := [("_law_part", 8)]) rfl (by exact sc_f__law_weight.nd) (by exact (pid_any (pd_sub (hu_of hr) (pd_var 1) pd_int))) (by exact (blkOk_by (own := [("_law_part", 8)]) (N := ["_law_rules_here", "_law_deed_here", "_law_handed", "_law_word", "_law_there", "_law_parts", "_law_inner", "_law_one", "_law_part"]) (sc := defScope (stm .f__law_weight)) (by decide +kernel))) (fun _ _ _ _ _ => by exact (pgd_name 8 sc_f__law_weight.nd)) (fun _ _ _ _ _ => by exact ptsd_nil) (fun _ _ _ _ _ => by exact (pd_call (ih .f__law_weight) (hr.mono (Nat.le_refl _)) (by rfl) T.mg_f__law_weight T.kp_f__law_weight (T.bd .f__law_weight) takes0N (pda_cons (pd_var 0) (pda_cons (pd_var 8) (pda_cons (pd_var 2) pda_nil)))))) pda_nil)) (pgd_name 5 sc_f__law_weight.nd))
    (pssd_one (psd_ret (pd_bin od_add (pd_bin od_add pd_int (pd_var 5)) (pd_call (ih .f__law_weight) (hr.mono (Nat.le_refl _)) (by rfl) T.mg_f__law_weight T.kp_f__law_weight (T.bd .f__law_weight) (L2N.takes_of rfl rfl rfl rfl) (pda_cons (pd_var 0) (pda_cons (pd_sub (hu_of hr) (pd_sub (hu_of hr) (pd_var 0) (pd_sub (hu_of hr) (pd_var 1) pd_int)) pd_int) (pda_cons (pd_var 4) pda_nil))))))))) pssd_nil)
    (pssd_cons (psd_setLc 6 (own := [("_law_part", 8)]) rfl (by exact sc_f__law_weight.nd) (by exact (pid_any (pd_sl (pd_var 1) (pod_some pd_int) pod_none))) (by exact (blkOk_by (own := [("_law_part", 8)]) (N := ["_law_rules_here", "_law_deed_here", "_law_handed", "_law_word", "_law_there", "_law_parts", "_law_inner", "_law_one", "_law_part"]) (sc := defScope (stm .f__law_weight)) (by decide +kernel))) (fun _ _ _ _ _ => by exact (pgd_name 8 sc_f__law_weight.nd)) (fun _ _ _ _ _ => by exact (ptsd_one (ptd_val (pd_isi (by rfl) T.z_isinstance (by rfl) T.z_tuple (by rfl) (by rfl) (pd_var 8))))) (fun _ _ _ _ _ => by exact (pd_call (ih .f__law_weight) (hr.mono (Nat.le_refl _)) (by rfl) T.mg_f__law_weight T.kp_f__law_weight (T.bd .f__law_weight) takes0N (pda_cons (pd_var 0) (pda_cons (pd_var 8) (pda_cons (pd_var 2) pda_nil))))) (by exact sw_true rfl rfl rfl (by decide +kernel)))
    (pssd_cons (psd_if (ptd_cmp (od_eq hr.units) (pd_var 3) pd_str (nomark _)) (pssd_one (psd_ret (pd_bin od_add (pd_bin od_add pd_int (pd_sub (hu_of hr) (pd_var 6) pd_int)) (pd_bin od_mul pd_int (pd_sub (hu_of hr) (pd_var 6) pd_int))))) pssd_nil)
    (pssd_one (psd_ret (pd_bin od_add pd_int (pd_callB (cd_sum rfl) (by rfl) T.z_sum (by rfl) (pda_cons (pd_var 6) pda_nil)))))))))))
theorem sc_f__law_light : FnScope ["_law_script", "_law_at", "_law_deep", "_law_rules_here", "_law_deed_here"] (pas .f__law_light) (defScope (stm .f__law_light)) := ⟨rfl, rfl, rfl, by decide +kernel, rfl, by decide +kernel, by decide +kernel⟩
theorem ok_f__law_light {n : Nat} (T : Tx K mg fa fdt ca ea) (ih : ∀ i, Ok P w K mg base fa fdt ca ea (n + 1) i) (ih2 : ∀ i, Ok P w K mg base fa fdt ca ea n i) : Ok P w K mg base fa fdt ca ea (n + 2) .f__law_light := by
  show FnOk P w K mg base (L2N.CX P w) (n + 1 + 1) (fa .f__law_light) (fdt .f__law_light) (pas .f__law_light) (spD ⟨K, cA ca, xA ea⟩ 4 (runFn 4 5 (b_f__law_light (csem (n + 1)) (csem n))))
  refine fn_ok (T := ⟨cA ca, xA ea⟩) (np := 4) (N := ["_law_script", "_law_at", "_law_deep", "_law_rules_here", "_law_deed_here"]) (b := b_f__law_light (csem (n + 1)) (csem n)) (T.fn .f__law_light) sc_f__law_light rfl (fun cdv A outer s H E hr => ?_)
  unfold b_f__law_light
  exact (pssd_cons (psd_asg (pd_call (ih .f__law_deed) (hr.mono (Nat.le_refl _)) (by rfl) T.mg_f__law_deed T.kp_f__law_deed (T.bd .f__law_deed) (L2N.takes_of rfl rfl rfl rfl) (pda_cons (pd_var 0) (pda_cons (pd_var 1) (pda_cons (pd_var 2) (pda_cons (pd_tup (pda_cons (pd_tup pda_nil) (pda_cons (pd_tup pda_nil) (pda_cons (pd_tup pda_nil) pda_nil)))) (pda_cons (pd_var 3) pda_nil)))))) (pgd_name 4 sc_f__law_light.nd))
    (pssd_cons (psd_if (ptd_cmp od_gt (pd_call (ih .f__law_weight) (hr.mono (Nat.le_refl _)) (by rfl) T.mg_f__law_weight T.kp_f__law_weight (T.bd .f__law_weight) (L2N.takes_of rfl rfl rfl rfl) (pda_cons (pd_var 3) (pda_cons (pd_var 4) (pda_cons pd_dnew pda_nil)))) pd_int (nomark _)) (pssd_one (psd_ret (pd_tup (pda_cons pd_str (pda_cons (pd_sub (hu_of hr) pd_str (pd_call (ih .f__law_drawn) (hr.mono (Nat.le_refl _)) (by rfl) T.mg_f__law_drawn T.kp_f__law_drawn (T.bd .f__law_drawn) (L2N.takes_of rfl rfl rfl rfl) (pda_cons (pd_var 0) (pda_cons (pd_var 1) (pda_cons pd_int pda_nil))))) pda_nil))))) pssd_nil)
    (pssd_one (psd_ret (pd_var 4)))))
theorem sc_f_law : FnScope ["_law_script", "_law_rules_here", "_law_deed_here", "_law_told"] (pas .f_law) (defScope (stm .f_law)) := ⟨rfl, rfl, rfl, by decide +kernel, rfl, by decide +kernel, by decide +kernel⟩
theorem ok_f_law {n : Nat} (T : Tx K mg fa fdt ca ea) (ih : ∀ i, Ok P w K mg base fa fdt ca ea (n + 1) i) (ih2 : ∀ i, Ok P w K mg base fa fdt ca ea n i) : Ok P w K mg base fa fdt ca ea (n + 2) .f_law := by
  show FnOk P w K mg base (L2N.CX P w) (n + 1 + 1) (fa .f_law) (fdt .f_law) (pas .f_law) (spD ⟨K, cA ca, xA ea⟩ 1 (runFn 1 4 (b_f_law (csem (n + 1)) (csem n) (lsem (n + 1)) (lsem n))))
  refine fn_ok (T := ⟨cA ca, xA ea⟩) (np := 1) (N := ["_law_script", "_law_rules_here", "_law_deed_here", "_law_told"]) (b := b_f_law (csem (n + 1)) (csem n) (lsem (n + 1)) (lsem n)) (T.fn .f_law) sc_f_law rfl (fun cdv A outer s H E hr => ?_)
  unfold b_f_law
  exact (pssd_cons (psd_asg (pd_call (ih .f__law_rules) (hr.mono (Nat.le_refl _)) (by rfl) T.mg_f__law_rules T.kp_f__law_rules (T.bd .f__law_rules) (L2N.takes_of rfl rfl rfl rfl) (pda_cons (pd_var 0) (pda_cons pd_int pda_nil))) (pgd_name 1 sc_f_law.nd))
    (pssd_cons (psd_asg (pd_call (ih .f__law_light) (hr.mono (Nat.le_refl _)) (by rfl) T.mg_f__law_light T.kp_f__law_light (T.bd .f__law_light) (L2N.takes_of rfl rfl rfl rfl) (pda_cons (pd_var 0) (pda_cons pd_int (pda_cons pd_int (pda_cons (pd_var 1) pda_nil))))) (pgd_name 2 sc_f_law.nd))
    (pssd_cons (psd_asg (pd_call (ih .f_written) (hr.mono (Nat.le_refl _)) (by rfl) T.mg_f_written T.kp_f_written (T.bd .f_written) (L2N.takes_of rfl rfl rfl rfl) (pda_cons (pd_var 2) pda_nil)) (pgd_name 3 sc_f_law.nd))
    (pssd_cons (psd_if (ptd_cmp (od_ne hr.units) (pd_var 3) (pd_join pd_str (pd_call (ih .f__law_words) (hr.mono (Nat.le_refl _)) (by rfl) T.mg_f__law_words T.kp_f__law_words (T.bd .f__law_words) (L2N.takes_of rfl rfl rfl rfl) (pda_cons (pd_var 2) (pda_cons pd_bl pda_nil)))) (nomark _)) (pssd_one (psd_ret pd_bl)) pssd_nil)
    (pssd_one (psd_ret (pd_or (pd_not (pd_call (ih .f_is_deed) (hr.mono (Nat.le_refl _)) (by rfl) T.mg_f_is_deed T.kp_f_is_deed (T.bd .f_is_deed) (L2N.takes_of rfl rfl rfl rfl) (pda_cons (pd_var 1) (pda_cons (pd_var 2) pda_nil)))) (pd_one (pd_cmp (od_eq hr.units) (pd_call (ih .f_read) (hr.mono (Nat.le_refl _)) (by rfl) T.mg_f_read T.kp_f_read (T.bd .f_read) (L2N.takes_of rfl rfl rfl rfl) (pda_cons (pd_var 1) (pda_cons (pd_var 3) pda_nil))) (pd_var 2) (nomark _))))))))))
theorem all_ok (T : Tx K mg fa fdt ca ea) : ∀ n, (∀ i, Ok P w K mg base fa fdt ca ea n i) ∧ ∀ i, Ok P w K mg base fa fdt ca ea (n + 1) i
  | 0 => ⟨fun i => by cases i <;> exact fn_zero, fun i => by cases i <;> exact fn_zero.mono (Nat.zero_le _)⟩
  | n + 1 => by
    obtain ⟨h2, h1⟩ := all_ok T n
    refine ⟨h1, fun i => ?_⟩
    cases i
    · exact ok_f_is_number T h1 h2
    · exact ok_f_is_word T h1 h2
    · exact ok_f_is_shelf T h1 h2
    · exact ok_m_Reader_init T h1 h2
    · exact ok_m_Reader_is_deed T h1 h2
    · exact ok_m_Reader_is_call T h1 h2
    · exact ok_f_is_leaf T h1 h2
    · exact ok_f_is_deed T h1 h2
    · exact ok_f_words_for T h1 h2
    · exact ok_f_written T h1 h2
    · exact ok_m_Words_init T h1 h2
    · exact ok_m_Words_next_word T h1 h2
    · exact ok_m_Words_thing T h1 h2
    · exact ok_m_Words_row T h1 h2
    · exact ok_f_read T h1 h2
    · exact ok_f__law_cell T h1 h2
    · exact ok_f__law_drawn T h1 h2
    · exact ok_f__law_leaf T h1 h2
    · exact ok_f__law_deed T h1 h2
    · exact ok_f__law_call T h1 h2
    · exact ok_f__law_rules T h1 h2
    · exact ok_f__law_words T h1 h2
    · exact ok_f__law_weight T h1 h2
    · exact ok_f__law_light T h1 h2
    · exact ok_f_law T h1 h2
end
def spLaw (K : PySem.W.Frag) : Sp := fun vs H Q _ => ∃ (a : Addr) (ns : List Int), vs = [.ref a] ∧ SqL K H a (ns.map V.int) ∧ Only H ∧ ns.length ≤ 63 ∧ ∀ H', Q (.bl true) H'
def lev : Nat := 231
theorem sp_law {K : PySem.W.Frag} {ca : Cid → Addr} {ea : Eid → Addr} (vs : List V) (H : Hp) (Q : VK) (E : XK) (h : spLaw K vs H Q E) : spD ⟨K, cA ca, xA ea⟩ 1 (lsem lev .f_law) vs H Q E := by
  obtain ⟨a, ns, rfl, hq, hO, hl, k⟩ := h
  obtain ⟨S, e⟩ := law_true ns hl
  refine ⟨[], [], [.seq (ns.map .int)], rfl, hs_nil _ _, .cons ?_ .nil, ?_⟩
  · exact rv_script hO hq
  · have e2 : lsem lev .f_law [.seq (ns.map .int)] [] = .ok (.bl true) S := e
    rw [e2]
    rintro v μ' H' g hs r
    cases r
    exact k H'
theorem all_mk {l : PySem.W.OpenLaw} {w : World} {K : PySem.W.Frag} {h : Heap} {mg : Str → Option Value} {f_a : Addr} (X : K.In h) (G : h.Ns mainGlobals mg) (hfa : mg "law" = some (.ref f_a))
    {a0 : Addr} {od0 an0 : Option Addr} {sl0 : Array (Option Value)} {oc0 kV0 dc0 pm0 cd0 ct0 : Value}
    {a1 : Addr} {od1 an1 : Option Addr} {sl1 : Array (Option Value)} {oc1 kV1 dc1 pm1 cd1 ct1 : Value}
    {a2 : Addr} {od2 an2 : Option Addr} {sl2 : Array (Option Value)} {oc2 kV2 dc2 pm2 cd2 ct2 : Value}
    {a3 : Addr} {od3 an3 : Option Addr} {sl3 : Array (Option Value)} {oc3 kV3 dc3 pm3 cd3 ct3 : Value}
    {a4 : Addr} {od4 an4 : Option Addr} {sl4 : Array (Option Value)} {oc4 kV4 dc4 pm4 cd4 ct4 : Value}
    {a5 : Addr} {od5 an5 : Option Addr} {sl5 : Array (Option Value)} {oc5 kV5 dc5 pm5 cd5 ct5 : Value}
    {a6 : Addr} {od6 an6 : Option Addr} {sl6 : Array (Option Value)} {oc6 kV6 dc6 pm6 cd6 ct6 : Value}
    {a7 : Addr} {od7 an7 : Option Addr} {sl7 : Array (Option Value)} {oc7 kV7 dc7 pm7 cd7 ct7 : Value}
    {a8 : Addr} {od8 an8 : Option Addr} {sl8 : Array (Option Value)} {oc8 kV8 dc8 pm8 cd8 ct8 : Value}
    {a9 : Addr} {od9 an9 : Option Addr} {sl9 : Array (Option Value)} {oc9 kV9 dc9 pm9 cd9 ct9 : Value}
    {a10 : Addr} {od10 an10 : Option Addr} {sl10 : Array (Option Value)} {oc10 kV10 dc10 pm10 cd10 ct10 : Value}
    {a11 : Addr} {od11 an11 : Option Addr} {sl11 : Array (Option Value)} {oc11 kV11 dc11 pm11 cd11 ct11 : Value}
    {a12 : Addr} {od12 an12 : Option Addr} {sl12 : Array (Option Value)} {oc12 kV12 dc12 pm12 cd12 ct12 : Value}
    {a13 : Addr} {od13 an13 : Option Addr} {sl13 : Array (Option Value)} {oc13 kV13 dc13 pm13 cd13 ct13 : Value}
    {a14 : Addr} {od14 an14 : Option Addr} {sl14 : Array (Option Value)} {oc14 kV14 dc14 pm14 cd14 ct14 : Value}
    {a15 : Addr} {od15 an15 : Option Addr} {sl15 : Array (Option Value)} {oc15 kV15 dc15 pm15 cd15 ct15 : Value}
    {a16 : Addr} {od16 an16 : Option Addr} {sl16 : Array (Option Value)} {oc16 kV16 dc16 pm16 cd16 ct16 : Value}
    {a17 : Addr} {od17 an17 : Option Addr} {sl17 : Array (Option Value)} {oc17 kV17 dc17 pm17 cd17 ct17 : Value}
    {a18 : Addr} {od18 an18 : Option Addr} {sl18 : Array (Option Value)} {oc18 kV18 dc18 pm18 cd18 ct18 : Value}
    {a19 : Addr} {od19 an19 : Option Addr} {sl19 : Array (Option Value)} {oc19 kV19 dc19 pm19 cd19 ct19 : Value}
    {a20 : Addr} {od20 an20 : Option Addr} {sl20 : Array (Option Value)} {oc20 kV20 dc20 pm20 cd20 ct20 : Value}
    {a21 : Addr} {od21 an21 : Option Addr} {sl21 : Array (Option Value)} {oc21 kV21 dc21 pm21 cd21 ct21 : Value}
    {a22 : Addr} {od22 an22 : Option Addr} {sl22 : Array (Option Value)} {oc22 kV22 dc22 pm22 cd22 ct22 : Value}
    {a23 : Addr} {od23 an23 : Option Addr} {sl23 : Array (Option Value)} {oc23 kV23 dc23 pm23 cd23 ct23 : Value}
    {a24 : Addr} {od24 an24 : Option Addr} {sl24 : Array (Option Value)} {oc24 kV24 dc24 pm24 cd24 ct24 : Value}
    {C0 : Addr}
    {C1 : Addr}
    {E0 : Addr}
    {t0 : Tok}
    {t1 : Tok}
    {t2 : Tok}
    {t3 : Tok}
    (aC0 : PySem.W.nsIn K mainGlobals "Reader" = some (some (.ref C0)))
    (pg0 : PySem.W.plainGet K C0 Str.empty = true)
    (hd0 : PySem.W.hasDictIn K C0 = true)
    (po0 : PySem.W.plainOver K C0 = true)
    (sa0 : PySem.W.findIn K (.ref C0) "__setattr__" = some (some (.builtin "object.__setattr__")))
    (mk0 : PySem.W.makesIn K C0 = true)
    (kc0 : PySem.W.keepIn K (.ref C0) = true)
    (n0_0 : PySem.W.findIn K (.ref C0) "rules" = some none)
    (n0_1 : PySem.W.findIn K (.ref C0) "below" = some none)
    (n0_2 : PySem.W.findIn K (.ref C0) "left" = some none)
    (aC1 : PySem.W.nsIn K mainGlobals "Words" = some (some (.ref C1)))
    (pg1 : PySem.W.plainGet K C1 Str.empty = true)
    (hd1 : PySem.W.hasDictIn K C1 = true)
    (po1 : PySem.W.plainOver K C1 = true)
    (sa1 : PySem.W.findIn K (.ref C1) "__setattr__" = some (some (.builtin "object.__setattr__")))
    (mk1 : PySem.W.makesIn K C1 = true)
    (kc1 : PySem.W.keepIn K (.ref C1) = true)
    (n1_0 : PySem.W.findIn K (.ref C1) "rules" = some none)
    (n1_1 : PySem.W.findIn K (.ref C1) "below" = some none)
    (n1_2 : PySem.W.findIn K (.ref C1) "left" = some none)
    (aE0 : PySem.W.nsIn K mainGlobals "NoText" = some (some (.ref E0)))
    (xE0 : PySem.W.excIn K E0 [.type "ValueError", .type "Exception", .type "BaseException", .type "object"] "ValueError.__new__" = true)
    (kE0 : PySem.W.keepIn K (.ref E0) = true)
    (bE0 : PySem.W.subIn K (.ref E0) (.type "BaseException") = some true)
    (tE0 : PySem.W.typeIn K (.ref E0) = some (.type "type"))
    (iE0 : PySem.W.isClsIn K E0 = true)
    (sE0 : PySem.W.subIn K (.ref E0) (.ref E0) = some true)
    (a_0 : PySem.W.nsIn K mainGlobals "is_number" = some (some (.ref a0)))
    (l_0 : K.lookup a0 = some ⟨oc0, od0, .func (PySem.W.fnOf "is_number" "is_number" (defArgs (stm .f_is_number)) (defBody (stm .f_is_number)) (defScope (stm .f_is_number)) .none kV0 dc0 pm0 an0 cd0 ct0), sl0⟩)
    (c_0 : PySem.W.codeIn K cd0 "is_number" = true)
    (k_0 : PySem.W.keepIn K (.ref a0) = true)
    (a_1 : PySem.W.nsIn K mainGlobals "is_word" = some (some (.ref a1)))
    (l_1 : K.lookup a1 = some ⟨oc1, od1, .func (PySem.W.fnOf "is_word" "is_word" (defArgs (stm .f_is_word)) (defBody (stm .f_is_word)) (defScope (stm .f_is_word)) .none kV1 dc1 pm1 an1 cd1 ct1), sl1⟩)
    (c_1 : PySem.W.codeIn K cd1 "is_word" = true)
    (k_1 : PySem.W.keepIn K (.ref a1) = true)
    (a_2 : PySem.W.nsIn K mainGlobals "is_shelf" = some (some (.ref a2)))
    (l_2 : K.lookup a2 = some ⟨oc2, od2, .func (PySem.W.fnOf "is_shelf" "is_shelf" (defArgs (stm .f_is_shelf)) (defBody (stm .f_is_shelf)) (defScope (stm .f_is_shelf)) .none kV2 dc2 pm2 an2 cd2 ct2), sl2⟩)
    (c_2 : PySem.W.codeIn K cd2 "is_shelf" = true)
    (k_2 : PySem.W.keepIn K (.ref a2) = true)
    (a_3 : PySem.W.findIn K (.ref C0) "__init__" = some (some (.ref a3)))
    (i_3 : PySem.W.isFn K (.ref a3) = true)
    (l_3 : K.lookup a3 = some ⟨oc3, od3, .func (PySem.W.fnOf "__init__" "Reader.__init__" (defArgs (stm .m_Reader_init)) (defBody (stm .m_Reader_init)) (defScope (stm .m_Reader_init)) .none kV3 dc3 pm3 an3 cd3 ct3), sl3⟩)
    (c_3 : PySem.W.codeIn K cd3 "Reader.__init__" = true)
    (k_3 : PySem.W.keepIn K (.ref a3) = true)
    (a_4 : PySem.W.findIn K (.ref C0) "is_deed" = some (some (.ref a4)))
    (i_4 : PySem.W.isFn K (.ref a4) = true)
    (l_4 : K.lookup a4 = some ⟨oc4, od4, .func (PySem.W.fnOf "is_deed" "Reader.is_deed" (defArgs (stm .m_Reader_is_deed)) (defBody (stm .m_Reader_is_deed)) (defScope (stm .m_Reader_is_deed)) .none kV4 dc4 pm4 an4 cd4 ct4), sl4⟩)
    (c_4 : PySem.W.codeIn K cd4 "Reader.is_deed" = true)
    (k_4 : PySem.W.keepIn K (.ref a4) = true)
    (a_5 : PySem.W.findIn K (.ref C0) "is_call" = some (some (.ref a5)))
    (i_5 : PySem.W.isFn K (.ref a5) = true)
    (l_5 : K.lookup a5 = some ⟨oc5, od5, .func (PySem.W.fnOf "is_call" "Reader.is_call" (defArgs (stm .m_Reader_is_call)) (defBody (stm .m_Reader_is_call)) (defScope (stm .m_Reader_is_call)) .none kV5 dc5 pm5 an5 cd5 ct5), sl5⟩)
    (c_5 : PySem.W.codeIn K cd5 "Reader.is_call" = true)
    (k_5 : PySem.W.keepIn K (.ref a5) = true)
    (a_6 : PySem.W.nsIn K mainGlobals "is_leaf" = some (some (.ref a6)))
    (l_6 : K.lookup a6 = some ⟨oc6, od6, .func (PySem.W.fnOf "is_leaf" "is_leaf" (defArgs (stm .f_is_leaf)) (defBody (stm .f_is_leaf)) (defScope (stm .f_is_leaf)) .none kV6 dc6 pm6 an6 cd6 ct6), sl6⟩)
    (c_6 : PySem.W.codeIn K cd6 "is_leaf" = true)
    (k_6 : PySem.W.keepIn K (.ref a6) = true)
    (a_7 : PySem.W.nsIn K mainGlobals "is_deed" = some (some (.ref a7)))
    (l_7 : K.lookup a7 = some ⟨oc7, od7, .func (PySem.W.fnOf "is_deed" "is_deed" (defArgs (stm .f_is_deed)) (defBody (stm .f_is_deed)) (defScope (stm .f_is_deed)) .none kV7 dc7 pm7 an7 cd7 ct7), sl7⟩)
    (c_7 : PySem.W.codeIn K cd7 "is_deed" = true)
    (k_7 : PySem.W.keepIn K (.ref a7) = true)
    (a_8 : PySem.W.nsIn K mainGlobals "words_for" = some (some (.ref a8)))
    (l_8 : K.lookup a8 = some ⟨oc8, od8, .func (PySem.W.fnOf "words_for" "words_for" (defArgs (stm .f_words_for)) (defBody (stm .f_words_for)) (defScope (stm .f_words_for)) .none kV8 dc8 pm8 an8 cd8 ct8), sl8⟩)
    (c_8 : PySem.W.codeIn K cd8 "words_for" = true)
    (k_8 : PySem.W.keepIn K (.ref a8) = true)
    (a_9 : PySem.W.nsIn K mainGlobals "written" = some (some (.ref a9)))
    (l_9 : K.lookup a9 = some ⟨oc9, od9, .func (PySem.W.fnOf "written" "written" (defArgs (stm .f_written)) (defBody (stm .f_written)) (defScope (stm .f_written)) .none kV9 dc9 pm9 an9 cd9 ct9), sl9⟩)
    (c_9 : PySem.W.codeIn K cd9 "written" = true)
    (k_9 : PySem.W.keepIn K (.ref a9) = true)
    (a_10 : PySem.W.findIn K (.ref C1) "__init__" = some (some (.ref a10)))
    (i_10 : PySem.W.isFn K (.ref a10) = true)
    (l_10 : K.lookup a10 = some ⟨oc10, od10, .func (PySem.W.fnOf "__init__" "Words.__init__" (defArgs (stm .m_Words_init)) (defBody (stm .m_Words_init)) (defScope (stm .m_Words_init)) .none kV10 dc10 pm10 an10 cd10 ct10), sl10⟩)
    (c_10 : PySem.W.codeIn K cd10 "Words.__init__" = true)
    (k_10 : PySem.W.keepIn K (.ref a10) = true)
    (a_11 : PySem.W.findIn K (.ref C1) "next_word" = some (some (.ref a11)))
    (i_11 : PySem.W.isFn K (.ref a11) = true)
    (l_11 : K.lookup a11 = some ⟨oc11, od11, .func (PySem.W.fnOf "next_word" "Words.next_word" (defArgs (stm .m_Words_next_word)) (defBody (stm .m_Words_next_word)) (defScope (stm .m_Words_next_word)) .none kV11 dc11 pm11 an11 cd11 ct11), sl11⟩)
    (c_11 : PySem.W.codeIn K cd11 "Words.next_word" = true)
    (k_11 : PySem.W.keepIn K (.ref a11) = true)
    (a_12 : PySem.W.findIn K (.ref C1) "thing" = some (some (.ref a12)))
    (i_12 : PySem.W.isFn K (.ref a12) = true)
    (l_12 : K.lookup a12 = some ⟨oc12, od12, .func (PySem.W.fnOf "thing" "Words.thing" (defArgs (stm .m_Words_thing)) (defBody (stm .m_Words_thing)) (defScope (stm .m_Words_thing)) .none kV12 dc12 pm12 an12 cd12 ct12), sl12⟩)
    (c_12 : PySem.W.codeIn K cd12 "Words.thing" = true)
    (k_12 : PySem.W.keepIn K (.ref a12) = true)
    (a_13 : PySem.W.findIn K (.ref C1) "row" = some (some (.ref a13)))
    (i_13 : PySem.W.isFn K (.ref a13) = true)
    (l_13 : K.lookup a13 = some ⟨oc13, od13, .func (PySem.W.fnOf "row" "Words.row" (defArgs (stm .m_Words_row)) (defBody (stm .m_Words_row)) (defScope (stm .m_Words_row)) .none kV13 dc13 pm13 an13 cd13 ct13), sl13⟩)
    (c_13 : PySem.W.codeIn K cd13 "Words.row" = true)
    (k_13 : PySem.W.keepIn K (.ref a13) = true)
    (a_14 : PySem.W.nsIn K mainGlobals "read" = some (some (.ref a14)))
    (l_14 : K.lookup a14 = some ⟨oc14, od14, .func (PySem.W.fnOf "read" "read" (defArgs (stm .f_read)) (defBody (stm .f_read)) (defScope (stm .f_read)) .none kV14 dc14 pm14 an14 cd14 ct14), sl14⟩)
    (c_14 : PySem.W.codeIn K cd14 "read" = true)
    (k_14 : PySem.W.keepIn K (.ref a14) = true)
    (a_15 : PySem.W.nsIn K mainGlobals "_law_cell" = some (some (.ref a15)))
    (l_15 : K.lookup a15 = some ⟨oc15, od15, .func (PySem.W.fnOf "_law_cell" "_law_cell" (defArgs (stm .f__law_cell)) (defBody (stm .f__law_cell)) (defScope (stm .f__law_cell)) .none kV15 dc15 pm15 an15 cd15 ct15), sl15⟩)
    (c_15 : PySem.W.codeIn K cd15 "_law_cell" = true)
    (k_15 : PySem.W.keepIn K (.ref a15) = true)
    (a_16 : PySem.W.nsIn K mainGlobals "_law_drawn" = some (some (.ref a16)))
    (l_16 : K.lookup a16 = some ⟨oc16, od16, .func (PySem.W.fnOf "_law_drawn" "_law_drawn" (defArgs (stm .f__law_drawn)) (defBody (stm .f__law_drawn)) (defScope (stm .f__law_drawn)) .none kV16 dc16 pm16 an16 cd16 ct16), sl16⟩)
    (c_16 : PySem.W.codeIn K cd16 "_law_drawn" = true)
    (k_16 : PySem.W.keepIn K (.ref a16) = true)
    (a_17 : PySem.W.nsIn K mainGlobals "_law_leaf" = some (some (.ref a17)))
    (l_17 : K.lookup a17 = some ⟨oc17, od17, .func (PySem.W.fnOf "_law_leaf" "_law_leaf" (defArgs (stm .f__law_leaf)) (defBody (stm .f__law_leaf)) (defScope (stm .f__law_leaf)) .none kV17 dc17 pm17 an17 cd17 ct17), sl17⟩)
    (c_17 : PySem.W.codeIn K cd17 "_law_leaf" = true)
    (k_17 : PySem.W.keepIn K (.ref a17) = true)
    (a_18 : PySem.W.nsIn K mainGlobals "_law_deed" = some (some (.ref a18)))
    (l_18 : K.lookup a18 = some ⟨oc18, od18, .func (PySem.W.fnOf "_law_deed" "_law_deed" (defArgs (stm .f__law_deed)) (defBody (stm .f__law_deed)) (defScope (stm .f__law_deed)) .none kV18 dc18 pm18 an18 cd18 ct18), sl18⟩)
    (c_18 : PySem.W.codeIn K cd18 "_law_deed" = true)
    (k_18 : PySem.W.keepIn K (.ref a18) = true)
    (a_19 : PySem.W.nsIn K mainGlobals "_law_call" = some (some (.ref a19)))
    (l_19 : K.lookup a19 = some ⟨oc19, od19, .func (PySem.W.fnOf "_law_call" "_law_call" (defArgs (stm .f__law_call)) (defBody (stm .f__law_call)) (defScope (stm .f__law_call)) .none kV19 dc19 pm19 an19 cd19 ct19), sl19⟩)
    (c_19 : PySem.W.codeIn K cd19 "_law_call" = true)
    (k_19 : PySem.W.keepIn K (.ref a19) = true)
    (a_20 : PySem.W.nsIn K mainGlobals "_law_rules" = some (some (.ref a20)))
    (l_20 : K.lookup a20 = some ⟨oc20, od20, .func (PySem.W.fnOf "_law_rules" "_law_rules" (defArgs (stm .f__law_rules)) (defBody (stm .f__law_rules)) (defScope (stm .f__law_rules)) .none kV20 dc20 pm20 an20 cd20 ct20), sl20⟩)
    (c_20 : PySem.W.codeIn K cd20 "_law_rules" = true)
    (k_20 : PySem.W.keepIn K (.ref a20) = true)
    (a_21 : PySem.W.nsIn K mainGlobals "_law_words" = some (some (.ref a21)))
    (l_21 : K.lookup a21 = some ⟨oc21, od21, .func (PySem.W.fnOf "_law_words" "_law_words" (defArgs (stm .f__law_words)) (defBody (stm .f__law_words)) (defScope (stm .f__law_words)) .none kV21 dc21 pm21 an21 cd21 ct21), sl21⟩)
    (c_21 : PySem.W.codeIn K cd21 "_law_words" = true)
    (k_21 : PySem.W.keepIn K (.ref a21) = true)
    (a_22 : PySem.W.nsIn K mainGlobals "_law_weight" = some (some (.ref a22)))
    (l_22 : K.lookup a22 = some ⟨oc22, od22, .func (PySem.W.fnOf "_law_weight" "_law_weight" (defArgs (stm .f__law_weight)) (defBody (stm .f__law_weight)) (defScope (stm .f__law_weight)) .none kV22 dc22 pm22 an22 cd22 ct22), sl22⟩)
    (c_22 : PySem.W.codeIn K cd22 "_law_weight" = true)
    (k_22 : PySem.W.keepIn K (.ref a22) = true)
    (a_23 : PySem.W.nsIn K mainGlobals "_law_light" = some (some (.ref a23)))
    (l_23 : K.lookup a23 = some ⟨oc23, od23, .func (PySem.W.fnOf "_law_light" "_law_light" (defArgs (stm .f__law_light)) (defBody (stm .f__law_light)) (defScope (stm .f__law_light)) .none kV23 dc23 pm23 an23 cd23 ct23), sl23⟩)
    (c_23 : PySem.W.codeIn K cd23 "_law_light" = true)
    (k_23 : PySem.W.keepIn K (.ref a23) = true)
    (a_24 : PySem.W.nsIn K mainGlobals "law" = some (some (.ref a24)))
    (l_24 : K.lookup a24 = some ⟨oc24, od24, .func (PySem.W.fnOf "law" "law" (defArgs (stm .f_law)) (defBody (stm .f_law)) (defScope (stm .f_law)) .none kV24 dc24 pm24 an24 cd24 ct24), sl24⟩)
    (c_24 : PySem.W.codeIn K cd24 "law" = true)
    (k_24 : PySem.W.keepIn K (.ref a24) = true)
    (z_all : PySem.W.nsIn K mainGlobals "all" = some none)
    (z_bool : PySem.W.nsIn K mainGlobals "bool" = some none)
    (z_dict : PySem.W.nsIn K mainGlobals "dict" = some none)
    (z_int : PySem.W.nsIn K mainGlobals "int" = some none)
    (z_isinstance : PySem.W.nsIn K mainGlobals "isinstance" = some none)
    (z_len : PySem.W.nsIn K mainGlobals "len" = some none)
    (z_range : PySem.W.nsIn K mainGlobals "range" = some none)
    (z_str : PySem.W.nsIn K mainGlobals "str" = some none)
    (z_sum : PySem.W.nsIn K mainGlobals "sum" = some none)
    (z_tuple : PySem.W.nsIn K mainGlobals "tuple" = some none)
    (z_zip : PySem.W.nsIn K mainGlobals "zip" = some none)
    (g_FIGURES : PySem.W.nsIn K mainGlobals "FIGURES" = some (some (.str "0123456789" t0)))
    (g_MOST_PARTS : PySem.W.nsIn K mainGlobals "MOST_PARTS" = some (some (.int 60 t1)))
    (g_SHELVES : PySem.W.nsIn K mainGlobals "SHELVES" = some (some (.str "abcd" t2)))
    (g_SIZE : PySem.W.nsIn K mainGlobals "SIZE" = some (some (.int 1009 t3)))
    : ∃ fd : FuncData, (∀ (s : Shared) (v : Value), BindsTo s fd ⟨[v], []⟩ [("_law_script", v)]) ∧ ∀ base : Heap, K.In base → base.Ns mainGlobals mg → FnOk l.prog w K mg base (L2N.CX l.prog w) lev f_a fd ["_law_script"] (spLaw K) := by
  have e := hfa.symm.trans (PySem.W.mg_of X G a_24)
  cases e
  have F0 := fun_mk (st := stm .f_is_number) l_0 c_0 k_0
  have B0 := F0.binds (ps := pas .f_is_number) fun _ _ _ _ _ _ us hl => match us, hl with | [_], _ => rfl
  have F1 := fun_mk (st := stm .f_is_word) l_1 c_1 k_1
  have B1 := F1.binds (ps := pas .f_is_word) fun _ _ _ _ _ _ us hl => match us, hl with | [_, _], _ => rfl
  have F2 := fun_mk (st := stm .f_is_shelf) l_2 c_2 k_2
  have B2 := F2.binds (ps := pas .f_is_shelf) fun _ _ _ _ _ _ us hl => match us, hl with | [_, _], _ => rfl
  have F3 := fun_mk (st := stm .m_Reader_init) l_3 c_3 k_3
  have B3 := F3.binds (ps := pas .m_Reader_init) fun _ _ _ _ _ _ us hl => match us, hl with | [_, _, _], _ => rfl
  have F4 := fun_mk (st := stm .m_Reader_is_deed) l_4 c_4 k_4
  have B4 := F4.binds (ps := pas .m_Reader_is_deed) fun _ _ _ _ _ _ us hl => match us, hl with | [_, _, _], _ => rfl
  have F5 := fun_mk (st := stm .m_Reader_is_call) l_5 c_5 k_5
  have B5 := F5.binds (ps := pas .m_Reader_is_call) fun _ _ _ _ _ _ us hl => match us, hl with | [_, _, _], _ => rfl
  have F6 := fun_mk (st := stm .f_is_leaf) l_6 c_6 k_6
  have B6 := F6.binds (ps := pas .f_is_leaf) fun _ _ _ _ _ _ us hl => match us, hl with | [_, _], _ => rfl
  have F7 := fun_mk (st := stm .f_is_deed) l_7 c_7 k_7
  have B7 := F7.binds (ps := pas .f_is_deed) fun _ _ _ _ _ _ us hl => match us, hl with | [_, _], _ => rfl
  have F8 := fun_mk (st := stm .f_words_for) l_8 c_8 k_8
  have B8 := F8.binds (ps := pas .f_words_for) fun _ _ _ _ _ _ us hl => match us, hl with | [_], _ => rfl
  have F9 := fun_mk (st := stm .f_written) l_9 c_9 k_9
  have B9 := F9.binds (ps := pas .f_written) fun _ _ _ _ _ _ us hl => match us, hl with | [_], _ => rfl
  have F10 := fun_mk (st := stm .m_Words_init) l_10 c_10 k_10
  have B10 := F10.binds (ps := pas .m_Words_init) fun _ _ _ _ _ _ us hl => match us, hl with | [_, _], _ => rfl
  have F11 := fun_mk (st := stm .m_Words_next_word) l_11 c_11 k_11
  have B11 := F11.binds (ps := pas .m_Words_next_word) fun _ _ _ _ _ _ us hl => match us, hl with | [_], _ => rfl
  have F12 := fun_mk (st := stm .m_Words_thing) l_12 c_12 k_12
  have B12 := F12.binds (ps := pas .m_Words_thing) fun _ _ _ _ _ _ us hl => match us, hl with | [_, _, _], _ => rfl
  have F13 := fun_mk (st := stm .m_Words_row) l_13 c_13 k_13
  have B13 := F13.binds (ps := pas .m_Words_row) fun _ _ _ _ _ _ us hl => match us, hl with | [_, _, _], _ => rfl
  have F14 := fun_mk (st := stm .f_read) l_14 c_14 k_14
  have B14 := F14.binds (ps := pas .f_read) fun _ _ _ _ _ _ us hl => match us, hl with | [_, _], _ => rfl
  have F15 := fun_mk (st := stm .f__law_cell) l_15 c_15 k_15
  have B15 := F15.binds (ps := pas .f__law_cell) fun _ _ _ _ _ _ us hl => match us, hl with | [_, _], _ => rfl
  have F16 := fun_mk (st := stm .f__law_drawn) l_16 c_16 k_16
  have B16 := F16.binds (ps := pas .f__law_drawn) fun _ _ _ _ _ _ us hl => match us, hl with | [_, _, _], _ => rfl
  have F17 := fun_mk (st := stm .f__law_leaf) l_17 c_17 k_17
  have B17 := F17.binds (ps := pas .f__law_leaf) fun _ _ _ _ _ _ us hl => match us, hl with | [_, _, _], _ => rfl
  have F18 := fun_mk (st := stm .f__law_deed) l_18 c_18 k_18
  have B18 := F18.binds (ps := pas .f__law_deed) fun _ _ _ _ _ _ us hl => match us, hl with | [_, _, _, _, _], _ => rfl
  have F19 := fun_mk (st := stm .f__law_call) l_19 c_19 k_19
  have B19 := F19.binds (ps := pas .f__law_call) fun _ _ _ _ _ _ us hl => match us, hl with | [_, _, _, _, _], _ => rfl
  have F20 := fun_mk (st := stm .f__law_rules) l_20 c_20 k_20
  have B20 := F20.binds (ps := pas .f__law_rules) fun _ _ _ _ _ _ us hl => match us, hl with | [_, _], _ => rfl
  have F21 := fun_mk (st := stm .f__law_words) l_21 c_21 k_21
  have B21 := F21.binds (ps := pas .f__law_words) fun _ _ _ _ _ _ us hl => match us, hl with | [_, _], _ => rfl
  have F22 := fun_mk (st := stm .f__law_weight) l_22 c_22 k_22
  have B22 := F22.binds (ps := pas .f__law_weight) fun _ _ _ _ _ _ us hl => match us, hl with | [_, _, _], _ => rfl
  have F23 := fun_mk (st := stm .f__law_light) l_23 c_23 k_23
  have B23 := F23.binds (ps := pas .f__law_light) fun _ _ _ _ _ _ us hl => match us, hl with | [_, _, _, _], _ => rfl
  have F24 := fun_mk (st := stm .f_law) l_24 c_24 k_24
  have B24 := F24.binds (ps := pas .f_law) fun _ _ _ _ _ _ us hl => match us, hl with | [_], _ => rfl
  let fa : Fid → Addr := fun i => match i with | .f_is_number => a0 | .f_is_word => a1 | .f_is_shelf => a2 | .m_Reader_init => a3 | .m_Reader_is_deed => a4 | .m_Reader_is_call => a5 | .f_is_leaf => a6 | .f_is_deed => a7 | .f_words_for => a8 | .f_written => a9 | .m_Words_init => a10 | .m_Words_next_word => a11 | .m_Words_thing => a12 | .m_Words_row => a13 | .f_read => a14 | .f__law_cell => a15 | .f__law_drawn => a16 | .f__law_leaf => a17 | .f__law_deed => a18 | .f__law_call => a19 | .f__law_rules => a20 | .f__law_words => a21 | .f__law_weight => a22 | .f__law_light => a23 | .f_law => f_a
  let fdt : Fid → FuncData := fun i => match i with | .f_is_number => PySem.W.fnOf "is_number" "is_number" (defArgs (stm .f_is_number)) (defBody (stm .f_is_number)) (defScope (stm .f_is_number)) .none kV0 dc0 pm0 an0 cd0 ct0 | .f_is_word => PySem.W.fnOf "is_word" "is_word" (defArgs (stm .f_is_word)) (defBody (stm .f_is_word)) (defScope (stm .f_is_word)) .none kV1 dc1 pm1 an1 cd1 ct1 | .f_is_shelf => PySem.W.fnOf "is_shelf" "is_shelf" (defArgs (stm .f_is_shelf)) (defBody (stm .f_is_shelf)) (defScope (stm .f_is_shelf)) .none kV2 dc2 pm2 an2 cd2 ct2 | .m_Reader_init => PySem.W.fnOf "__init__" "Reader.__init__" (defArgs (stm .m_Reader_init)) (defBody (stm .m_Reader_init)) (defScope (stm .m_Reader_init)) .none kV3 dc3 pm3 an3 cd3 ct3 | .m_Reader_is_deed => PySem.W.fnOf "is_deed" "Reader.is_deed" (defArgs (stm .m_Reader_is_deed)) (defBody (stm .m_Reader_is_deed)) (defScope (stm .m_Reader_is_deed)) .none kV4 dc4 pm4 an4 cd4 ct4 | .m_Reader_is_call => PySem.W.fnOf "is_call" "Reader.is_call" (defArgs (stm .m_Reader_is_call)) (defBody (stm .m_Reader_is_call)) (defScope (stm .m_Reader_is_call)) .none kV5 dc5 pm5 an5 cd5 ct5 | .f_is_leaf => PySem.W.fnOf "is_leaf" "is_leaf" (defArgs (stm .f_is_leaf)) (defBody (stm .f_is_leaf)) (defScope (stm .f_is_leaf)) .none kV6 dc6 pm6 an6 cd6 ct6 | .f_is_deed => PySem.W.fnOf "is_deed" "is_deed" (defArgs (stm .f_is_deed)) (defBody (stm .f_is_deed)) (defScope (stm .f_is_deed)) .none kV7 dc7 pm7 an7 cd7 ct7 | .f_words_for => PySem.W.fnOf "words_for" "words_for" (defArgs (stm .f_words_for)) (defBody (stm .f_words_for)) (defScope (stm .f_words_for)) .none kV8 dc8 pm8 an8 cd8 ct8 | .f_written => PySem.W.fnOf "written" "written" (defArgs (stm .f_written)) (defBody (stm .f_written)) (defScope (stm .f_written)) .none kV9 dc9 pm9 an9 cd9 ct9 | .m_Words_init => PySem.W.fnOf "__init__" "Words.__init__" (defArgs (stm .m_Words_init)) (defBody (stm .m_Words_init)) (defScope (stm .m_Words_init)) .none kV10 dc10 pm10 an10 cd10 ct10 | .m_Words_next_word => PySem.W.fnOf "next_word" "Words.next_word" (defArgs (stm .m_Words_next_word)) (defBody (stm .m_Words_next_word)) (defScope (stm .m_Words_next_word)) .none kV11 dc11 pm11 an11 cd11 ct11 | .m_Words_thing => PySem.W.fnOf "thing" "Words.thing" (defArgs (stm .m_Words_thing)) (defBody (stm .m_Words_thing)) (defScope (stm .m_Words_thing)) .none kV12 dc12 pm12 an12 cd12 ct12 | .m_Words_row => PySem.W.fnOf "row" "Words.row" (defArgs (stm .m_Words_row)) (defBody (stm .m_Words_row)) (defScope (stm .m_Words_row)) .none kV13 dc13 pm13 an13 cd13 ct13 | .f_read => PySem.W.fnOf "read" "read" (defArgs (stm .f_read)) (defBody (stm .f_read)) (defScope (stm .f_read)) .none kV14 dc14 pm14 an14 cd14 ct14 | .f__law_cell => PySem.W.fnOf "_law_cell" "_law_cell" (defArgs (stm .f__law_cell)) (defBody (stm .f__law_cell)) (defScope (stm .f__law_cell)) .none kV15 dc15 pm15 an15 cd15 ct15 | .f__law_drawn => PySem.W.fnOf "_law_drawn" "_law_drawn" (defArgs (stm .f__law_drawn)) (defBody (stm .f__law_drawn)) (defScope (stm .f__law_drawn)) .none kV16 dc16 pm16 an16 cd16 ct16 | .f__law_leaf => PySem.W.fnOf "_law_leaf" "_law_leaf" (defArgs (stm .f__law_leaf)) (defBody (stm .f__law_leaf)) (defScope (stm .f__law_leaf)) .none kV17 dc17 pm17 an17 cd17 ct17 | .f__law_deed => PySem.W.fnOf "_law_deed" "_law_deed" (defArgs (stm .f__law_deed)) (defBody (stm .f__law_deed)) (defScope (stm .f__law_deed)) .none kV18 dc18 pm18 an18 cd18 ct18 | .f__law_call => PySem.W.fnOf "_law_call" "_law_call" (defArgs (stm .f__law_call)) (defBody (stm .f__law_call)) (defScope (stm .f__law_call)) .none kV19 dc19 pm19 an19 cd19 ct19 | .f__law_rules => PySem.W.fnOf "_law_rules" "_law_rules" (defArgs (stm .f__law_rules)) (defBody (stm .f__law_rules)) (defScope (stm .f__law_rules)) .none kV20 dc20 pm20 an20 cd20 ct20 | .f__law_words => PySem.W.fnOf "_law_words" "_law_words" (defArgs (stm .f__law_words)) (defBody (stm .f__law_words)) (defScope (stm .f__law_words)) .none kV21 dc21 pm21 an21 cd21 ct21 | .f__law_weight => PySem.W.fnOf "_law_weight" "_law_weight" (defArgs (stm .f__law_weight)) (defBody (stm .f__law_weight)) (defScope (stm .f__law_weight)) .none kV22 dc22 pm22 an22 cd22 ct22 | .f__law_light => PySem.W.fnOf "_law_light" "_law_light" (defArgs (stm .f__law_light)) (defBody (stm .f__law_light)) (defScope (stm .f__law_light)) .none kV23 dc23 pm23 an23 cd23 ct23 | .f_law => PySem.W.fnOf "law" "law" (defArgs (stm .f_law)) (defBody (stm .f_law)) (defScope (stm .f_law)) .none kV24 dc24 pm24 an24 cd24 ct24
  let ca : Cid → Addr := fun i => match i with | .Reader => C0 | .Words => C1
  let ea : Eid → Addr := fun i => match i with | .NoText => E0
  have T : Tx K mg fa fdt ca ea :=
    { fn := fun i => match i with | .f_is_number => F0 | .f_is_word => F1 | .f_is_shelf => F2 | .m_Reader_init => F3 | .m_Reader_is_deed => F4 | .m_Reader_is_call => F5 | .f_is_leaf => F6 | .f_is_deed => F7 | .f_words_for => F8 | .f_written => F9 | .m_Words_init => F10 | .m_Words_next_word => F11 | .m_Words_thing => F12 | .m_Words_row => F13 | .f_read => F14 | .f__law_cell => F15 | .f__law_drawn => F16 | .f__law_leaf => F17 | .f__law_deed => F18 | .f__law_call => F19 | .f__law_rules => F20 | .f__law_words => F21 | .f__law_weight => F22 | .f__law_light => F23 | .f_law => F24,
      bd := fun i => match i with | .f_is_number => B0 | .f_is_word => B1 | .f_is_shelf => B2 | .m_Reader_init => B3 | .m_Reader_is_deed => B4 | .m_Reader_is_call => B5 | .f_is_leaf => B6 | .f_is_deed => B7 | .f_words_for => B8 | .f_written => B9 | .m_Words_init => B10 | .m_Words_next_word => B11 | .m_Words_thing => B12 | .m_Words_row => B13 | .f_read => B14 | .f__law_cell => B15 | .f__law_drawn => B16 | .f__law_leaf => B17 | .f__law_deed => B18 | .f__law_call => B19 | .f__law_rules => B20 | .f__law_words => B21 | .f__law_weight => B22 | .f__law_light => B23 | .f_law => B24,
      cl := fun i => match i with | .Reader => ⟨pg0, hd0, po0, sa0⟩ | .Words => ⟨pg1, hd1, po1, sa1⟩,
      xc := fun i => match i with | .NoText => ⟨.inr xE0, kE0, bE0, tE0, iE0, sE0⟩,
      mg_NoText := PySem.W.mg_of X G aE0,
      mg_f_is_number := PySem.W.mg_of X G a_0,
      kp_f_is_number := k_0,
      mg_f_is_word := PySem.W.mg_of X G a_1,
      kp_f_is_word := k_1,
      mg_f_is_shelf := PySem.W.mg_of X G a_2,
      kp_f_is_shelf := k_2,
      me_m_Reader_is_deed := ⟨a_4, i_4, k_4⟩,
      me_m_Reader_is_call := ⟨a_5, i_5, k_5⟩,
      mg_f_is_leaf := PySem.W.mg_of X G a_6,
      kp_f_is_leaf := k_6,
      mg_f_is_deed := PySem.W.mg_of X G a_7,
      kp_f_is_deed := k_7,
      mg_f_words_for := PySem.W.mg_of X G a_8,
      kp_f_words_for := k_8,
      mg_f_written := PySem.W.mg_of X G a_9,
      kp_f_written := k_9,
      me_m_Words_next_word := ⟨a_11, i_11, k_11⟩,
      me_m_Words_thing := ⟨a_12, i_12, k_12⟩,
      me_m_Words_row := ⟨a_13, i_13, k_13⟩,
      mg_f_read := PySem.W.mg_of X G a_14,
      kp_f_read := k_14,
      mg_f__law_cell := PySem.W.mg_of X G a_15,
      kp_f__law_cell := k_15,
      mg_f__law_drawn := PySem.W.mg_of X G a_16,
      kp_f__law_drawn := k_16,
      mg_f__law_leaf := PySem.W.mg_of X G a_17,
      kp_f__law_leaf := k_17,
      mg_f__law_deed := PySem.W.mg_of X G a_18,
      kp_f__law_deed := k_18,
      mg_f__law_call := PySem.W.mg_of X G a_19,
      kp_f__law_call := k_19,
      mg_f__law_rules := PySem.W.mg_of X G a_20,
      kp_f__law_rules := k_20,
      mg_f__law_words := PySem.W.mg_of X G a_21,
      kp_f__law_words := k_21,
      mg_f__law_weight := PySem.W.mg_of X G a_22,
      kp_f__law_weight := k_22,
      mg_f__law_light := PySem.W.mg_of X G a_23,
      kp_f__law_light := k_23,
      mg_f_law := PySem.W.mg_of X G a_24,
      kp_f_law := k_24,
      mg_Reader := PySem.W.mg_of X G aC0,
      mk_Reader := ⟨mk0, a_3, i_3, kc0⟩,
      mg_Words := PySem.W.mg_of X G aC1,
      mk_Words := ⟨mk1, a_10, i_10, kc1⟩,
      na_rules := fun i => match i with | .Reader => n0_0 | .Words => n1_0,
      na_below := fun i => match i with | .Reader => n0_1 | .Words => n1_1,
      na_left := fun i => match i with | .Reader => n0_2 | .Words => n1_2,
      z_all := PySem.W.mg_none_of X G z_all,
      z_bool := PySem.W.mg_none_of X G z_bool,
      z_dict := PySem.W.mg_none_of X G z_dict,
      z_int := PySem.W.mg_none_of X G z_int,
      z_isinstance := PySem.W.mg_none_of X G z_isinstance,
      z_len := PySem.W.mg_none_of X G z_len,
      z_range := PySem.W.mg_none_of X G z_range,
      z_str := PySem.W.mg_none_of X G z_str,
      z_sum := PySem.W.mg_none_of X G z_sum,
      z_tuple := PySem.W.mg_none_of X G z_tuple,
      z_zip := PySem.W.mg_none_of X G z_zip,
      g_FIGURES := ⟨_, PySem.W.mg_of X G g_FIGURES⟩,
      g_MOST_PARTS := ⟨_, PySem.W.mg_of X G g_MOST_PARTS⟩,
      g_SHELVES := ⟨_, PySem.W.mg_of X G g_SHELVES⟩,
      g_SIZE := ⟨_, PySem.W.mg_of X G g_SIZE⟩ }
  exact ⟨fdt .f_law, fun s v => .of_eq rfl, fun base _ _ => ((all_ok (P := l.prog) (w := w) (base := base) T lev).1 .f_law).imp (fun vs H Q E h => sp_law vs H Q E h)⟩
theorem walk {l : PySem.W.OpenLaw} {q : Program} {loose : List Str} {XP : (Str → Option Value) → Heap → Prop} {YP : World → Heap → Prop} {d : DefRec} {K : Params → PySem.W.Frag} (hn : l.most = some 63) (hdf : d.params.defaults = [])
    (hY : ∀ (w : World) (h : Heap), YP w h → (K w.params).In h)
    (F : ∀ (w : World) (mg : Str → Option Value) (fa : Addr) (h : Heap), (K w.params).In h → h.Ns mainGlobals mg → mg d.name = some (.ref fa) →
      ∃ fd : FuncData, (∀ (s : Shared) (u : Value), BindsTo s fd ⟨[u], []⟩ [("_law_script", u)]) ∧ ∀ base : Heap, (K w.params).In base → base.Ns mainGlobals mg → FnOk l.prog w (K w.params) mg base (L2N.CX l.prog w) lev fa fd ["_law_script"] (spLaw (K w.params))) :
    PySem.W.WalkO q loose XP YP l.row.toRowW d [] (fun f vs => PySem.call f vs) :=
  L2.walk_of (n := 63) (k := lev) (x := "_law_script") (CX := fun w => L2N.CX l.prog w) (sp := fun w => spLaw (K w.params)) hn (by decide) hdf ⟨rfl, by decide, by decide⟩ hY F (fun _ _ a ns hl hO hS => ⟨a, ns, rfl, hS, hO, hl, fun _ => rfl⟩) fun _ _ _ _ _ z => no_exc z
end Lk80
open PySem PySem.W PyProof.Rows in
set_option maxRecDepth 100000 in
set_option maxHeartbeats 0 in
theorem PySem.Challenge.cw_shelfwork_k80_written_holds : PySem.Challenge.rw_shelfwork_k80_written.Holds := by
  w_on; o_law; k_head; (case hw => w_witness2)
  k_fill
  refine Lk80.walk (l := PySem.Challenge.rw_shelfwork_k80_written) rfl rfl (fun w h Y => PySem.W.kIn_of Y) ?F
  case F =>
    intro w mg fa h KX G hmg
    refine' Lk80.all_mk KX G hmg ?aC0 ?pg0 ?hd0 ?po0 ?sa0 ?mk0 ?kc0 ?n0_0 ?n0_1 ?n0_2 ?aC1 ?pg1 ?hd1 ?po1 ?sa1 ?mk1 ?kc1 ?n1_0 ?n1_1 ?n1_2 ?aE0 ?xE0 ?kE0 ?bE0 ?tE0 ?iE0 ?sE0 ?a_0 ?l_0 ?c_0 ?k_0 ?a_1 ?l_1 ?c_1 ?k_1 ?a_2 ?l_2 ?c_2 ?k_2 ?a_3 ?i_3 ?l_3 ?c_3 ?k_3 ?a_4 ?i_4 ?l_4 ?c_4 ?k_4 ?a_5 ?i_5 ?l_5 ?c_5 ?k_5 ?a_6 ?l_6 ?c_6 ?k_6 ?a_7 ?l_7 ?c_7 ?k_7 ?a_8 ?l_8 ?c_8 ?k_8 ?a_9 ?l_9 ?c_9 ?k_9 ?a_10 ?i_10 ?l_10 ?c_10 ?k_10 ?a_11 ?i_11 ?l_11 ?c_11 ?k_11 ?a_12 ?i_12 ?l_12 ?c_12 ?k_12 ?a_13 ?i_13 ?l_13 ?c_13 ?k_13 ?a_14 ?l_14 ?c_14 ?k_14 ?a_15 ?l_15 ?c_15 ?k_15 ?a_16 ?l_16 ?c_16 ?k_16 ?a_17 ?l_17 ?c_17 ?k_17 ?a_18 ?l_18 ?c_18 ?k_18 ?a_19 ?l_19 ?c_19 ?k_19 ?a_20 ?l_20 ?c_20 ?k_20 ?a_21 ?l_21 ?c_21 ?k_21 ?a_22 ?l_22 ?c_22 ?k_22 ?a_23 ?l_23 ?c_23 ?k_23 ?a_24 ?l_24 ?c_24 ?k_24 ?z_all ?z_bool ?z_dict ?z_int ?z_isinstance ?z_len ?z_range ?z_str ?z_sum ?z_tuple ?z_zip ?g_FIGURES ?g_MOST_PARTS ?g_SHELVES ?g_SIZE
    (case aC0 => k_is)
    (case pg0 => k_is)
    (case hd0 => k_is)
    (case po0 => k_is)
    (case sa0 => k_is)
    (case mk0 => k_is)
    (case kc0 => k_is)
    (case n0_0 => k_is)
    (case n0_1 => k_is)
    (case n0_2 => k_is)
    (case aC1 => k_is)
    (case pg1 => k_is)
    (case hd1 => k_is)
    (case po1 => k_is)
    (case sa1 => k_is)
    (case mk1 => k_is)
    (case kc1 => k_is)
    (case n1_0 => k_is)
    (case n1_1 => k_is)
    (case n1_2 => k_is)
    (case aE0 => k_is)
    (case xE0 => k_exc)
    (case kE0 => k_is)
    (case bE0 => k_is)
    (case tE0 => k_is)
    (case iE0 => k_is)
    (case sE0 => first | rfl | k_is)
    (case a_0 => k_is)
    (case l_0 => k_is)
    (case c_0 => k_is)
    (case k_0 => k_is)
    (case a_1 => k_is)
    (case l_1 => k_is)
    (case c_1 => k_is)
    (case k_1 => k_is)
    (case a_2 => k_is)
    (case l_2 => k_is)
    (case c_2 => k_is)
    (case k_2 => k_is)
    (case a_3 => k_is)
    (case i_3 => k_is)
    (case l_3 => k_is)
    (case c_3 => k_is)
    (case k_3 => k_is)
    (case a_4 => k_is)
    (case i_4 => k_is)
    (case l_4 => k_is)
    (case c_4 => k_is)
    (case k_4 => k_is)
    (case a_5 => k_is)
    (case i_5 => k_is)
    (case l_5 => k_is)
    (case c_5 => k_is)
    (case k_5 => k_is)
    (case a_6 => k_is)
    (case l_6 => k_is)
    (case c_6 => k_is)
    (case k_6 => k_is)
    (case a_7 => k_is)
    (case l_7 => k_is)
    (case c_7 => k_is)
    (case k_7 => k_is)
    (case a_8 => k_is)
    (case l_8 => k_is)
    (case c_8 => k_is)
    (case k_8 => k_is)
    (case a_9 => k_is)
    (case l_9 => k_is)
    (case c_9 => k_is)
    (case k_9 => k_is)
    (case a_10 => k_is)
    (case i_10 => k_is)
    (case l_10 => k_is)
    (case c_10 => k_is)
    (case k_10 => k_is)
    (case a_11 => k_is)
    (case i_11 => k_is)
    (case l_11 => k_is)
    (case c_11 => k_is)
    (case k_11 => k_is)
    (case a_12 => k_is)
    (case i_12 => k_is)
    (case l_12 => k_is)
    (case c_12 => k_is)
    (case k_12 => k_is)
    (case a_13 => k_is)
    (case i_13 => k_is)
    (case l_13 => k_is)
    (case c_13 => k_is)
    (case k_13 => k_is)
    (case a_14 => k_is)
    (case l_14 => k_is)
    (case c_14 => k_is)
    (case k_14 => k_is)
    (case a_15 => k_is)
    (case l_15 => k_is)
    (case c_15 => k_is)
    (case k_15 => k_is)
    (case a_16 => k_is)
    (case l_16 => k_is)
    (case c_16 => k_is)
    (case k_16 => k_is)
    (case a_17 => k_is)
    (case l_17 => k_is)
    (case c_17 => k_is)
    (case k_17 => k_is)
    (case a_18 => k_is)
    (case l_18 => k_is)
    (case c_18 => k_is)
    (case k_18 => k_is)
    (case a_19 => k_is)
    (case l_19 => k_is)
    (case c_19 => k_is)
    (case k_19 => k_is)
    (case a_20 => k_is)
    (case l_20 => k_is)
    (case c_20 => k_is)
    (case k_20 => k_is)
    (case a_21 => k_is)
    (case l_21 => k_is)
    (case c_21 => k_is)
    (case k_21 => k_is)
    (case a_22 => k_is)
    (case l_22 => k_is)
    (case c_22 => k_is)
    (case k_22 => k_is)
    (case a_23 => k_is)
    (case l_23 => k_is)
    (case c_23 => k_is)
    (case k_23 => k_is)
    (case a_24 => k_is)
    (case l_24 => k_is)
    (case c_24 => k_is)
    (case k_24 => k_is)
    (case z_all => k_is)
    (case z_bool => k_is)
    (case z_dict => k_is)
    (case z_int => k_is)
    (case z_isinstance => k_is)
    (case z_len => k_is)
    (case z_range => k_is)
    (case z_str => k_is)
    (case z_sum => k_is)
    (case z_tuple => k_is)
    (case z_zip => k_is)
    (case g_FIGURES => k_is)
    (case g_MOST_PARTS => k_is)
    (case g_SHELVES => k_is)
    (case g_SIZE => k_is)
